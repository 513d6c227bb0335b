/- What the proof of FnExactSequenceMulti needs: contracts of the functions that it reaches, each once. -/
import Derived.Test.YthfihlfjphiihaaProg
import Derived.Test.YthfihlfjphiihaaQMem
import Derived.Test.YthfihlfjphiihaaQOpen
import Derived.Test.YthfihlfjphiihaaLSequenceMultia
import Derived.Test.YthfihlfjphiihaaLSequenceMultib
import Derived.Test.YthfihlfjphiihaaLSequenceMultic
import Derived.Test.YthfihlfjphiihaaLSequenceMultid
import Derived.Test.YthfihlfjphiihaaLSequenceMultie
import Derived.Test.YthfihlfjphiihaaLSequenceMultif
import Derived.Test.YthfihlfjphiihaaLSequenceMultig
import Derived.WalkKit
import Derived.WalkSpells
import Derived.Below
import Derived.LoopTactic
import Derived.Outline
import Derived.Deep.QuietTactic
import Derived.BigQuiet
import Derived.Deep.LoopGhost
import Derived.Handy
import Derived.Lib.Hide
import Derived.Shelf.Abstract
import Derived.StillTailTactics
import Derived.OwnWalk
import Derived.Maps.AppendAt
import Derived.RegionTactic
import Derived.Deep.RegionHeld3
import Derived.IntWalk
import Derived.Deep.Upon
import Derived.Laws.OwnMore
import Derived.Maps.AppendAt
import Derived.Laws.Small
import Derived.Lib.FrozenHead
import Derived.Lib.RuneBytes
import Derived.Lib.LaidTab
import Derived.Laws.StructEq
import Derived.Maps.OwnSet
import Derived.DeepKeys4
import Derived.Lib.SliceRun
import Derived.Lib.AppendZeros
import Derived.Shelf.SortG.Plain
import Derived.Shelf.SortG.SortNone
import Derived.Shelf.SlicesG.CompactI
import Derived.Shelf.SlicesG.SearchI
import Derived.Sort.OwnSortedInts
import Derived.Lib.RowBridge
import Derived.Lib.ItoaLen
import Derived.Lib.Join
import Derived.Shelf.Strconv.Itoa4
import Derived.Shelf.Strings.OnBuilder
import Derived.Shelf.Strings.BuilderK
import Derived.Shelf.Strings.BuilderRune
import Derived.Shelf.LaysM
import Derived.Ground.NamesProg
import Derived.Shelf.SlSortCmp.WholeK
import Derived.Shelf.SlSortCmp.NoneTotal
namespace Go.Proofs.Ythfihlfjphiihaa
open Go.RowKit

set_option maxRecDepth 100000 in
set_option maxHeartbeats 4000000 in
theorem impl_SequenceMulti (es0 : List Value) (a0 : tMulti) (es1 : List Value) (a1 : tMulti) (w : World) (h0 : eMulti.R w (Old w) es0 a0) (h1 : eMulti.R w (Old w) es1 a1) :
    Calls Try.prog 36 #[.agg es0.toArray, .agg es1.toArray] w fun e w' => ∃ (es0' : List Value), e = .returned (.tuple #[.agg es0'.toArray, .int .i64 (seqMulti a0 a1).2]) ∧ eMulti.O w' (Fr w w') es0' (seqMulti a0 a1).1 ∧ Below w.heap.size w w' := by
  have H0 := h0
  obtain ⟨Az0_3, cz0_3, rfl, gz0_0, gz0_1, gz0_2, gz0_3⟩ := shape_Multi h0
  have jz0_0 := gz0_0; unfold I64 at jz0_0
  have jz0_1 := gz0_1; unfold I64 at jz0_1
  have jz0_2 := gz0_2; unfold I64 at jz0_2
  have lz0_3 := gz0_3.len
  have H1 := h1
  obtain ⟨Az1_3, cz1_3, rfl, gz1_0, gz1_1, gz1_2, gz1_3⟩ := shape_Multi h1
  have jz1_0 := gz1_0; unfold I64 at jz1_0
  have jz1_1 := gz1_1; unfold I64 at jz1_1
  have jz1_2 := gz1_2; unfold I64 at jz1_2
  have lz1_3 := gz1_3.len
  have HH1 := Held.start Nob w
  refine enter (n := 126) Try.func36 rfl rfl rfl fun a_2 HE3 => ?_
  refine wp_seq ?_
  refine rg ?_
  refine pl fun K_4 hK5 => ?_
  refine st_box (cs := [.int .i64 (a0.1), .int .i64 (a0.2.1), .int .i64 (a0.2.2.1), .slice Az0_3 (a0.2.2.2.length) cz0_3]) HE3 HH1 rfl rfl (wt0 rfl) rfl fun q21 a_6 w' HE7 HH8 => hK5 _ _ ?_
  refine pl fun K_9 hK10 => ?_
  refine st_box (cs := [.int .i64 (a1.1), .int .i64 (a1.2.1), .int .i64 (a1.2.2.1), .slice Az1_3 (a1.2.2.2.length) cz1_3]) HE7 HH8 rfl rfl (wt0 rfl) rfl fun q22 a_11 w' HE12 HH13 => hK10 _ _ ?_
  refine pl fun K_14 hK15 => ?_
  refine st_alloc HE12 HH13 tv_55 (wt0 rfl) rfl fun q23 a_16 w' HE17 HH18 => hK15 _ _ ?_
  refine pl_x HE17 HH18 (wt0 rfl) (x_assign rfl) rfl rfl fun a_19 HE20 => ?_
  refine wpList_nil ?_
  clear a_2 HE3 HH1 K_4 hK5 a_6 HE7 HH8 K_9 hK10 a_11 HE12 HH13 a_16 HE17 hK15 K_14
  refine nrm ?_
  refine wp_seq ?_
  refine wp_seq ?_
  refine rg ?_
  refine pl_x HE20 HH18 (wt0 rfl) (x_loadN (cs := [.int .i64 (a0.1), .int .i64 (a0.2.1), .int .i64 (a0.2.2.1), .slice Az0_3 (a0.2.2.2.length) cz0_3]) tv_55 rfl rfl (c_blkN 2 rfl)) rfl rfl fun a_21 HE22 => ?_
  refine pl fun K_23 hK24 => ?_
  refine st_call HE22 (wt0 rfl) rfl rfl rfl en_64 rfl rfl (impl_ValidMulti [.int .i64 (a0.1), .int .i64 (a0.2.1), .int .i64 (a0.2.2.1), .slice Az0_3 (a0.2.2.2.length) cz0_3] a0 _ (HH18.oldR H0)) fun e w' hr => ?_
  obtain ⟨rfl, hbr24⟩ := hr
  have HH25 := HH18.on hbr24
  refine ⟨_, rfl, fun a_26 HE27 => hK24 _ _ ?_⟩
  refine pl_x HE27 HH25 (wt0 rfl) (x_not rfl) rfl rfl fun a_28 HE29 => ?_
  refine pl_x HE29 HH25 (wt0 rfl) (x_move rfl) rfl rfl fun a_30 HE31 => ?_
  rcases Bool.eq_false_or_eq_true ((validMulti a0)) with hc25 | hc25
  · have hva := hc25
    obtain ⟨v0, v1, v2, v3⟩ := validMulti_facts hc25
    have hra := validMulti_rng hc25
    have hrr := validMulti_reads3 hc25
    refine pl_x HE31 HH25 (wtT HE31 rfl rfl rfl (not_f hc25)) (x_loadN (cs := [.int .i64 (a1.1), .int .i64 (a1.2.1), .int .i64 (a1.2.2.1), .slice Az1_3 (a1.2.2.2.length) cz1_3]) tv_55 rfl rfl (c_blkN 1 rfl)) rfl rfl fun a_32 HE33 => ?_
    refine pl fun K_34 hK35 => ?_
    refine st_call HE33 (wtT HE33 rfl rfl rfl (not_f hc25)) rfl rfl rfl en_64 rfl rfl (impl_ValidMulti [.int .i64 (a1.1), .int .i64 (a1.2.1), .int .i64 (a1.2.2.1), .slice Az1_3 (a1.2.2.2.length) cz1_3] a1 _ (HH25.oldR H1)) fun e w' hr => ?_
    obtain ⟨rfl, hbr26⟩ := hr
    have HH36 := HH25.on hbr26
    refine ⟨_, rfl, fun a_37 HE38 => hK35 _ _ ?_⟩
    refine pl_x HE38 HH36 (wtT HE38 rfl rfl rfl (not_f hc25)) (x_not rfl) rfl rfl fun a_39 HE40 => ?_
    refine pl_x HE40 HH36 (wt0 rfl) (x_pickF rfl (not_f hc25) rfl) rfl rfl fun a_41 HE42 => ?_
    refine wpList_nil ?_
    clear a_19 HE20 HH18 a_21 HE22 a_26 HE27 a_28 HE29 a_30 HE31 K_23 hK24 HH25 a_32 HE33 a_37 HE38 a_39 HE40 hK35 K_34
    refine nrm ?_
    refine cnd_nb HE42 rfl (fun hc27 => ?_) (fun hc27 => ?_)
    · refine wp_seq ?_
      refine rg ?_
      refine pl_x HE42 HH36 (wt0 rfl) (show XS _ _ _ _ (.agg #[.int .i64 (0), .int .i64 (0), .int .i64 (0), .slice none (0) 0]) from x_build (vs := []) tb_55 rfl (by simp [Value.oneCell'])) rfl rfl fun a_43 HE44 => ?_
      refine pl fun K_45 hK46 => ?_
      refine st_store (vs := [.int .i64 (0), .int .i64 (0), .int .i64 (0), .slice none (0) 0]) 0 HE44 HH36 tv_55 rfl rfl rfl rfl rfl rfl (by simp [Value.oneCell']) (wt0 rfl) fun w' HH47 => hK46 _ _ ?_
      refine pl_x HE44 HH47 (wt0 rfl) (x_assign rfl) rfl rfl fun a_48 HE49 => ?_
      refine wpList_nil ?_
      clear a_41 HE42 HH36 a_43 HE44 hK46 K_45
      refine nrm ?_
      refine wp_ret ?_
      refine (thn_ret ?_)
      refine ret2 HE49 rfl (rv_cell rfl (tv_55.loadN (cs := [.int .i64 (0), .int .i64 (0), .int .i64 (0), .slice none (0) 0]) rfl (c_blkN 0 rfl _ HH47))) (rv_tmp rfl) ?_
      have HH50 := HH47.flatO (E := eMulti) (cs := [.int .i64 (0), .int .i64 (0), .int .i64 (0), .slice none (0) 0]) (x := (0, 0, 0, [])) (fun _ => (oPrN (oI (by exact ⟨by omega, by omega⟩)) (oPrN (oI (by exact ⟨by omega, by omega⟩)) (oPrN (oI (by exact ⟨by omega, by omega⟩)) (oSl (So.nil (Nat.zero_le _)))))))
      have hF : (seqMulti a0 a1) = ((0, 0, 0, []), 1) := by
        first | (have hmq : sortMulti (a0.1, a0.2.1, (a0.2.2.1 + a1.2.2.1), (seqB a0 a0.2.2.1.toNat ++ (a1.2.2.2.take j).map (moveRl a0.2.2.1))) = seqM a0 a1 := (by rw [List.take_of_length_le (by omega)]; rfl); have hcc := hc27; rw [hmq] at hcc; unfold seqMulti; rw [if_pos ⟨hva, hvb⟩, if_pos ⟨by omega, by omega⟩]; first | (rw [if_pos hcc, hmq]; done) | (rw [if_pos hcc, hmq]; rfl) | (rw [if_neg (by rw [hcc]; exact Bool.false_ne_true)]; done)) | (simp [seqMulti, hc25, hc27]; done) | (unfold seqMulti; rw [if_neg (by grind)]; done) | (unfold seqMulti; rw [if_pos ⟨hva, hvb⟩, if_neg (by grind)]; done)
      exact ⟨_, by first | (rw [hF] <;> rfl) | rfl | (rw [hF]; simp only [Ending.returned.injEq, Value.slice.injEq, true_and, and_true]; first | omega | (simp; done)) | (rw [hF]; simp; omega), by rw [hF]; exact (HH50.o (i := 0) rfl), HH50.below⟩
    · have hvb := hc27
      obtain ⟨u0, u1, u2, u3⟩ := validMulti_facts hc27
      have hrb := validMulti_rng hc27
      refine wp_skip ?_
      refine nrm ?_
      refine wp_seq ?_
      refine wp_seq ?_
      refine rg ?_
      refine pl_x HE42 HH36 (wt0 rfl) (x_fieldAddr fa_55_0 rfl) rfl rfl fun a_51 HE52 => ?_
      refine pl_x HE52 HH36 (wt0 rfl) (x_load1 tv_2 rfl (c_blk 2 rfl rfl)) rfl rfl fun a_53 HE54 => ?_
      refine pl_x HE54 HH36 (wt0 rfl) (x_fieldAddr fa_55_0 rfl) rfl rfl fun a_55 HE56 => ?_
      refine pl_x HE56 HH36 (wt0 rfl) (x_load1 tv_2 rfl (c_blk 1 rfl rfl)) rfl rfl fun a_57 HE58 => ?_
      refine pl_x HE58 HH36 (wt0 rfl) (x_neq rfl rfl) rfl rfl fun a_59 HE60 => ?_
      refine pl_x HE60 HH36 (wt0 rfl) (x_move rfl) rfl rfl fun a_61 HE62 => ?_
      by_cases hc28 : ¬ a0.1 = a1.1
      · refine pl_no HE62 (wtF HE62 rfl rfl rfl (bne_t hc28)) rfl rfl fun a_63 HE64 => ?_
        refine pl_no HE64 (wtF HE64 rfl rfl rfl (bne_t hc28)) rfl rfl fun a_65 HE66 => ?_
        refine pl_no HE66 (wtF HE66 rfl rfl rfl (bne_t hc28)) rfl rfl fun a_67 HE68 => ?_
        refine pl_no HE68 (wtF HE68 rfl rfl rfl (bne_t hc28)) rfl rfl fun a_69 HE70 => ?_
        refine pl_no HE70 (wtF HE70 rfl rfl rfl (bne_t hc28)) rfl rfl fun a_71 HE72 => ?_
        refine pl_x HE72 HH36 (wt0 rfl) (x_pickT rfl (bne_t hc28) rfl) rfl rfl fun a_73 HE74 => ?_
        refine wpList_nil ?_
        clear a_41 HE42 a_51 HE52 a_53 HE54 a_55 HE56 a_57 HE58 a_59 HE60 a_61 HE62 a_63 HE64 a_65 HE66 a_67 HE68 a_69 HE70 a_71 HE72
        refine nrm ?_
        refine cndT HE74 rfl rfl ?_
        refine wp_seq ?_
        refine rg ?_
        refine pl_x HE74 HH36 (wt0 rfl) (show XS _ _ _ _ (.agg #[.int .i64 (0), .int .i64 (0), .int .i64 (0), .slice none (0) 0]) from x_build (vs := []) tb_55 rfl (by simp [Value.oneCell'])) rfl rfl fun a_75 HE76 => ?_
        refine pl fun K_77 hK78 => ?_
        refine st_store (vs := [.int .i64 (0), .int .i64 (0), .int .i64 (0), .slice none (0) 0]) 0 HE76 HH36 tv_55 rfl rfl rfl rfl rfl rfl (by simp [Value.oneCell']) (wt0 rfl) fun w' HH79 => hK78 _ _ ?_
        refine pl_x HE76 HH79 (wt0 rfl) (x_assign rfl) rfl rfl fun a_80 HE81 => ?_
        refine wpList_nil ?_
        clear a_73 HE74 HH36 a_75 HE76 hK78 K_77
        refine nrm ?_
        refine wp_ret ?_
        refine (thn_ret ?_)
        refine ret2 HE81 rfl (rv_cell rfl (tv_55.loadN (cs := [.int .i64 (0), .int .i64 (0), .int .i64 (0), .slice none (0) 0]) rfl (c_blkN 0 rfl _ HH79))) (rv_tmp rfl) ?_
        have HH82 := HH79.flatO (E := eMulti) (cs := [.int .i64 (0), .int .i64 (0), .int .i64 (0), .slice none (0) 0]) (x := (0, 0, 0, [])) (fun _ => (oPrN (oI (by exact ⟨by omega, by omega⟩)) (oPrN (oI (by exact ⟨by omega, by omega⟩)) (oPrN (oI (by exact ⟨by omega, by omega⟩)) (oSl (So.nil (Nat.zero_le _)))))))
        have hF : (seqMulti a0 a1) = ((0, 0, 0, []), 2) := by
          first | (have hmq : sortMulti (a0.1, a0.2.1, (a0.2.2.1 + a1.2.2.1), (seqB a0 a0.2.2.1.toNat ++ (a1.2.2.2.take j).map (moveRl a0.2.2.1))) = seqM a0 a1 := (by rw [List.take_of_length_le (by omega)]; rfl); have hcc := hc28; rw [hmq] at hcc; unfold seqMulti; rw [if_pos ⟨hva, hvb⟩, if_pos ⟨by omega, by omega⟩]; first | (rw [if_pos hcc, hmq]; done) | (rw [if_pos hcc, hmq]; rfl) | (rw [if_neg (by rw [hcc]; exact Bool.false_ne_true)]; done)) | (simp [seqMulti, hc25, hc27, hc28]; done) | (unfold seqMulti; rw [if_neg (by grind)]; done) | (unfold seqMulti; rw [if_pos ⟨hva, hvb⟩, if_neg (by grind)]; done)
        exact ⟨_, by first | (rw [hF] <;> rfl) | rfl | (rw [hF]; simp only [Ending.returned.injEq, Value.slice.injEq, true_and, and_true]; first | omega | (simp; done)) | (rw [hF]; simp; omega), by rw [hF]; exact (HH82.o (i := 0) rfl), HH82.below⟩
      · replace hc28 := Classical.not_not.1 hc28
        refine pl_x HE62 HH36 (wtT HE62 rfl rfl rfl (bne_f hc28)) (x_fieldAddr fa_55_1 rfl) rfl rfl fun a_83 HE84 => ?_
        refine pl_x HE84 HH36 (wtT HE84 rfl rfl rfl (bne_f hc28)) (x_load1 tv_2 rfl (c_blk 2 rfl rfl)) rfl rfl fun a_85 HE86 => ?_
        refine pl_x HE86 HH36 (wtT HE86 rfl rfl rfl (bne_f hc28)) (x_fieldAddr fa_55_1 rfl) rfl rfl fun a_87 HE88 => ?_
        refine pl_x HE88 HH36 (wtT HE88 rfl rfl rfl (bne_f hc28)) (x_load1 tv_2 rfl (c_blk 1 rfl rfl)) rfl rfl fun a_89 HE90 => ?_
        refine pl_x HE90 HH36 (wtT HE90 rfl rfl rfl (bne_f hc28)) (x_neq rfl rfl) rfl rfl fun a_91 HE92 => ?_
        refine pl_x HE92 HH36 (wt0 rfl) (x_pickF rfl (bne_f hc28) rfl) rfl rfl fun a_93 HE94 => ?_
        refine wpList_nil ?_
        clear a_41 HE42 a_51 HE52 a_53 HE54 a_55 HE56 a_57 HE58 a_59 HE60 a_61 HE62 a_83 HE84 a_85 HE86 a_87 HE88 a_89 HE90 a_91 HE92
        refine nrm ?_
        refine cnd_ne HE94 rfl (fun hc29 => ?_) (fun hc29 => ?_)
        · refine wp_seq ?_
          refine rg ?_
          refine pl_x HE94 HH36 (wt0 rfl) (show XS _ _ _ _ (.agg #[.int .i64 (0), .int .i64 (0), .int .i64 (0), .slice none (0) 0]) from x_build (vs := []) tb_55 rfl (by simp [Value.oneCell'])) rfl rfl fun a_95 HE96 => ?_
          refine pl fun K_97 hK98 => ?_
          refine st_store (vs := [.int .i64 (0), .int .i64 (0), .int .i64 (0), .slice none (0) 0]) 0 HE96 HH36 tv_55 rfl rfl rfl rfl rfl rfl (by simp [Value.oneCell']) (wt0 rfl) fun w' HH99 => hK98 _ _ ?_
          refine pl_x HE96 HH99 (wt0 rfl) (x_assign rfl) rfl rfl fun a_100 HE101 => ?_
          refine wpList_nil ?_
          clear a_93 HE94 HH36 a_95 HE96 hK98 K_97
          refine nrm ?_
          refine wp_ret ?_
          refine (thn_ret ?_)
          refine ret2 HE101 rfl (rv_cell rfl (tv_55.loadN (cs := [.int .i64 (0), .int .i64 (0), .int .i64 (0), .slice none (0) 0]) rfl (c_blkN 0 rfl _ HH99))) (rv_tmp rfl) ?_
          have HH102 := HH99.flatO (E := eMulti) (cs := [.int .i64 (0), .int .i64 (0), .int .i64 (0), .slice none (0) 0]) (x := (0, 0, 0, [])) (fun _ => (oPrN (oI (by exact ⟨by omega, by omega⟩)) (oPrN (oI (by exact ⟨by omega, by omega⟩)) (oPrN (oI (by exact ⟨by omega, by omega⟩)) (oSl (So.nil (Nat.zero_le _)))))))
          have hF : (seqMulti a0 a1) = ((0, 0, 0, []), 2) := by
            first | (have hmq : sortMulti (a0.1, a0.2.1, (a0.2.2.1 + a1.2.2.1), (seqB a0 a0.2.2.1.toNat ++ (a1.2.2.2.take j).map (moveRl a0.2.2.1))) = seqM a0 a1 := (by rw [List.take_of_length_le (by omega)]; rfl); have hcc := hc29; rw [hmq] at hcc; unfold seqMulti; rw [if_pos ⟨hva, hvb⟩, if_pos ⟨by omega, by omega⟩]; first | (rw [if_pos hcc, hmq]; done) | (rw [if_pos hcc, hmq]; rfl) | (rw [if_neg (by rw [hcc]; exact Bool.false_ne_true)]; done)) | (simp [seqMulti, hc25, hc27, hc28, hc29]; done) | (unfold seqMulti; rw [if_neg (by grind)]; done) | (unfold seqMulti; rw [if_pos ⟨hva, hvb⟩, if_neg (by grind)]; done)
          exact ⟨_, by first | (rw [hF] <;> rfl) | rfl | (rw [hF]; simp only [Ending.returned.injEq, Value.slice.injEq, true_and, and_true]; first | omega | (simp; done)) | (rw [hF]; simp; omega), by rw [hF]; exact (HH102.o (i := 0) rfl), HH102.below⟩
        · refine wp_skip ?_
          refine nrm ?_
          refine wp_seq ?_
          refine rg ?_
          refine pl_x HE94 HH36 (wt0 rfl) (x_fieldAddr fa_55_0 rfl) rfl rfl fun a_103 HE104 => ?_
          refine pl_x HE104 HH36 (wt0 rfl) (x_load1 tv_2 rfl (c_blk 2 rfl rfl)) rfl rfl fun a_105 HE106 => ?_
          refine pl_x HE106 HH36 (wt0 rfl) (x_fieldAddr fa_55_1 rfl) rfl rfl fun a_107 HE108 => ?_
          refine pl_x HE108 HH36 (wt0 rfl) (x_load1 tv_2 rfl (c_blk 2 rfl rfl)) rfl rfl fun a_109 HE110 => ?_
          refine pl_x HE110 HH36 (wt0 rfl) (x_fieldAddr fa_55_2 rfl) rfl rfl fun a_111 HE112 => ?_
          refine pl_x HE112 HH36 (wt0 rfl) (x_load1 tv_2 rfl (c_blk 2 rfl rfl)) rfl rfl fun a_113 HE114 => ?_
          refine pl_x HE114 HH36 (wt0 rfl) (x_fieldAddr fa_55_2 rfl) rfl rfl fun a_115 HE116 => ?_
          refine pl_x HE116 HH36 (wt0 rfl) (x_load1 tv_2 rfl (c_blk 1 rfl rfl)) rfl rfl fun a_117 HE118 => ?_
          refine pl_x HE118 HH36 (wt0 rfl) (x_add rfl rfl (by exact ⟨by omega, by omega⟩)) rfl rfl fun a_119 HE120 => ?_
          refine pl_x HE120 HH36 (wt0 rfl) (show XS _ _ _ _ (.agg #[.int .i64 (a0.1), .int .i64 (a0.2.1), .int .i64 ((a0.2.2.1 + a1.2.2.1)), .slice none (0) 0]) from x_build (vs := [(0, .int .i64 (a0.1)), (1, .int .i64 (a0.2.1)), (2, .int .i64 ((a0.2.2.1 + a1.2.2.1)))]) tb_55 rfl (by simp [Value.oneCell'])) rfl rfl fun a_121 HE122 => ?_
          refine pl fun K_123 hK124 => ?_
          refine st_alloc HE122 HH36 tv_55 (wt0 rfl) rfl fun q30 a_125 w' HE126 HH127 => hK124 _ _ ?_
          refine pl fun K_128 hK129 => ?_
          refine st_store (vs := [.int .i64 (a0.1), .int .i64 (a0.2.1), .int .i64 ((a0.2.2.1 + a1.2.2.1)), .slice none (0) 0]) 0 HE126 HH127 tv_55 rfl rfl rfl rfl rfl rfl (by simp [Value.oneCell']) (wt0 rfl) fun w' HH130 => hK129 _ _ ?_
          refine wpList_nil ?_
          clear a_93 HE94 a_103 HE104 a_105 HE106 a_107 HE108 a_109 HE110 a_111 HE112 a_113 HE114 a_115 HE116 a_117 HE118 a_119 HE120 a_121 HE122 HH36 K_123 hK124 HH127 hK129 K_128
          refine nrm ?_
          refine wp_seq ?_
          refine wp_seq ?_
          refine rg ?_
          refine pl_x HE126 HH130 (wt0 rfl) (x_fieldAddr fa_55_3 rfl) rfl rfl fun a_131 HE132 => ?_
          refine pl_x HE132 HH130 (wt0 rfl) (x_load1 tv_53 rfl (c_blk 3 rfl rfl)) rfl rfl fun a_133 HE134 => ?_
          refine pl_x HE134 HH130 (wt0 rfl) (x_len Try.underlying53 rfl) rfl rfl fun a_135 HE136 => ?_
          refine pl_x HE136 HH130 (wt0 rfl) (x_move rfl) rfl rfl fun a_137 HE138 => ?_
          refine wpList_nil ?_
          clear a_125 HE126 a_131 HE132 a_133 HE134 a_135 HE136
          refine nrm ?_
          refine wp_block ?_
          have HH139 := HH130.vecNil eMultiRule 104
          refine lp (fun m a w' => ∃ (i : Nat) (A_6_3 : Option Addr) (c_6_3 : Nat) (S_6_3 : Nat → Prop), m = a0.2.2.2.length - i ∧ Env 126 [(50, .int .i64 (i : Int)), (2, .pointer (some ⟨q21, 0, none⟩)), (3, .pointer (some ⟨q22, 0, none⟩)), (4, .pointer (some ⟨q23, 0, none⟩)), (6, .pointer (some ⟨q30, 0, none⟩)), (48, .slice Az0_3 (a0.2.2.2.length) cz0_3), (49, .int .i64 ((a0.2.2.2.length : Int)))] a ∧ Held Nob w [rVec eMultiRule 104 S_6_3 A_6_3 c_6_3 (a0.2.2.2.take i), rBlk q30 55 [.int .i64 a0.1, .int .i64 a0.2.1, .int .i64 (a0.2.2.1 + a1.2.2.1), .slice A_6_3 (List.length (a0.2.2.2.take i)) c_6_3], rBlk q23 55 [.int .i64 (0), .int .i64 (0), .int .i64 (0), .slice none (0) 0], rBlk q22 55 [.int .i64 (a1.1), .int .i64 (a1.2.1), .int .i64 (a1.2.2.1), .slice Az1_3 (a1.2.2.2.length) cz1_3], rBlk q21 55 [.int .i64 (a0.1), .int .i64 (a0.2.1), .int .i64 (a0.2.2.1), .slice Az0_3 (a0.2.2.2.length) cz0_3]] w' ∧ (i ≤ a0.2.2.2.length)) (a0.2.2.2.length - (0)) ?_ ?_
          · have E31 : (a0.2.2.2.take 0) = [] := by
              rfl
            exact ⟨0, none, 0, Nob, rfl, HE138.sub ⟨(lkI rfl (by first | rfl | omega | (simp [hc25, hc27, hc28, hc29]; done))), rfl, rfl, rfl, rfl, rfl, rfl, trivial⟩, ((HH139.sel [0, 1, 2, 3, 4] (by decide) rfl).to (by first | rfl | (rw [E31]; done) | (rw [E31]; rfl) | (simp only [E31]; done) | (simp only [E31]; rfl) | (rw [E31]; simp only [List.length_set]; done))), (by first | omega | assumption | (simp; done) | simp_all)⟩
          · rintro m a_140 w' ⟨i, A_6_3, c_6_3, S_6_3, rfl, HE141, HH142, p32_0⟩
            have ol : (a0.2.2.2.take i).length = i := by rw [List.length_take]; omega
            refine wp_seq ?_
            refine rg ?_
            refine pl_x HE141 HH142 (wt0 rfl) (x_lss rfl rfl) rfl rfl fun a_143 HE144 => ?_
            refine wpList_nil ?_
            clear HH130 a_137 HE138 HH139 a_140 HE141
            refine nrm ?_
            refine wp_seq ?_
            refine cnd_d HE144 rfl (fun hc33 => ?_) (fun hc33 => ?_)
            · refine wp_skip ?_
              refine nrm ?_
              refine wp_seq ?_
              refine wp_block ?_
              refine wp_seq ?_
              refine rg ?_
              have ke34 : i < a0.2.2.2.length := by omega
              obtain ⟨be34, fe34, ese34, Ae34, Re34, De34⟩ := el_old gz0_3 ke34
              obtain ⟨e34, xe34⟩ : ∃ x_, x_ = a0.2.2.2[i] := ⟨_, rfl⟩
              rw [← xe34] at Re34
              have Qe34 := Re34
              obtain ⟨Ae34_1, ce34_1, Ae34_2, ce34_2, Ae34_3, ce34_3, rfl, ge34_0, ge34_1, ge34_2, ge34_3, ge34_4⟩ := shape_MultiRule Re34
              have je34_0 := ge34_0; unfold I64 at je34_0
              have le34_1 := ge34_1.len
              have le34_2 := ge34_2.len
              have le34_3 := ge34_3.len
              have je34_4 := ge34_4; unfold I64 at je34_4
              have hre34 := hra e34 (by rw [xe34]; exact List.getElem_mem _)
              refine pl_x HE144 HH142 (wt0 rfl) (x_indexAddr ts_53 rfl rfl Ae34 rfl ke34) rfl rfl fun a_145 HE146 => ?_
              refine pl_x HE146 HH142 (wt0 rfl) (x_loadN (cs := [.int .i64 (e34.1), .slice Ae34_1 (e34.2.1.length) ce34_1, .slice Ae34_2 (e34.2.2.1.length) ce34_2, .slice Ae34_3 (e34.2.2.2.1.length) ce34_3, .int .i64 (e34.2.2.2.2)]) tv_104 rfl rfl (c_oldN De34)) rfl rfl fun a_147 HE148 => ?_
              refine pl fun K_149 hK150 => ?_
              refine st_alloc HE148 HH142 tv_104 (wt0 rfl) rfl fun q35 a_151 w' HE152 HH153 => hK150 _ _ ?_
              refine pl fun K_154 hK155 => ?_
              refine st_store (vs := [.int .i64 (e34.1), .slice Ae34_1 (e34.2.1.length) ce34_1, .slice Ae34_2 (e34.2.2.1.length) ce34_2, .slice Ae34_3 (e34.2.2.2.1.length) ce34_3, .int .i64 (e34.2.2.2.2)]) 0 HE152 HH153 tv_104 rfl rfl rfl rfl rfl rfl (by simp [Value.oneCell']) (wt0 rfl) fun w' HH156 => hK155 _ _ ?_
              refine wpList_nil ?_
              clear a_143 HE144 a_145 HE146 a_147 HE148 HH142 K_149 hK150 HH153 hK155 K_154
              refine nrm ?_
              refine wp_join (fun a w' => ∃ (S46 : Nat → Prop), ∃ (A44 : Option Addr), ∃ (c45 : Nat), ∃ (q43 : Nat), ∃ (Ar36_0_1 : Option Addr), ∃ (cr36_0_1 : Nat), ∃ (Ar36_0_2 : Option Addr), ∃ (cr36_0_2 : Nat), ∃ (Ar36_0_3 : Option Addr), ∃ (cr36_0_3 : Nat), Env 126 [(2, .pointer (some ⟨q21, 0, none⟩)), (3, .pointer (some ⟨q22, 0, none⟩)), (4, .pointer (some ⟨q23, 0, none⟩)), (6, .pointer (some ⟨q30, 0, none⟩)), (48, .slice Az0_3 (a0.2.2.2.length) cz0_3), (49, .int .i64 ((a0.2.2.2.length : Int))), (50, .int .i64 ((i : Int)))] a ∧ Held Nob w [rVec eMultiRule 104 S46 A44 c45 ((a0.2.2.2.take i) ++ [e34]), rBlk q43 104 [.int .i64 (e34.1), .slice Ar36_0_1 (e34.2.1.length) cr36_0_1, .slice Ar36_0_2 (e34.2.2.1.length) cr36_0_2, .slice Ar36_0_3 (e34.2.2.2.1.length) cr36_0_3, .int .i64 (e34.2.2.2.2)], rBlk q35 104 [.int .i64 (e34.1), .slice Ae34_1 (e34.2.1.length) ce34_1, .slice Ae34_2 (e34.2.2.1.length) ce34_2, .slice Ae34_3 (e34.2.2.2.1.length) ce34_3, .int .i64 (e34.2.2.2.2)], rBlk q30 55 [.int .i64 (a0.1), .int .i64 (a0.2.1), .int .i64 ((a0.2.2.1 + a1.2.2.1)), .slice A44 (((a0.2.2.2.take i) ++ [e34]).length) c45], rBlk q23 55 [.int .i64 (0), .int .i64 (0), .int .i64 (0), .slice none (0) 0], rBlk q22 55 [.int .i64 (a1.1), .int .i64 (a1.2.1), .int .i64 (a1.2.2.1), .slice Az1_3 (a1.2.2.2.length) cz1_3], rBlk q21 55 [.int .i64 (a0.1), .int .i64 (a0.2.1), .int .i64 (a0.2.2.1), .slice Az0_3 (a0.2.2.2.length) cz0_3]] w') ?_ ?_
              · refine dr_start (Held Nob w [rBlk q35 104 [.int .i64 (e34.1), .slice Ae34_1 (e34.2.1.length) ce34_1, .slice Ae34_2 (e34.2.2.1.length) ce34_2, .slice Ae34_3 (e34.2.2.2.1.length) ce34_3, .int .i64 (e34.2.2.2.2)], rBlk q23 55 [.int .i64 (0), .int .i64 (0), .int .i64 (0), .slice none (0) 0], rBlk q22 55 [.int .i64 (a1.1), .int .i64 (a1.2.1), .int .i64 (a1.2.2.1), .slice Az1_3 (a1.2.2.2.length) cz1_3], rBlk q21 55 [.int .i64 (a0.1), .int .i64 (a0.2.1), .int .i64 (a0.2.2.1), .slice Az0_3 (a0.2.2.2.length) cz0_3]]) 8 #[false, false, false, false, false, false, false, false] hmix rfl rfl HH156 (fun _ h => h.sel [0, 3, 4, 5] (by decide) rfl) fun w' HH157 => ?_
                have HS158 := HH157.sel [0, 3, 4, 5] (by decide) rfl
                refine dr_take (i := 0) (ls' := #[true, false, false, false, false, false, false, false]) HE152 HS158 rfl (by kernel_rfl) (by kernel_rfl) (by kernel_rfl) (fun _ _ _ h => h) rfl (wt0 rfl) (x_fieldAddr fa_55_3 rfl) rfl rfl fun a_159 HE160 => ?_
                refine dr_take (i := 2) (ls' := #[true, false, true, false, false, false, false, false]) HE160 HS158 rfl (by kernel_rfl) (by kernel_rfl) (by kernel_rfl) (fun _ _ _ h => h) rfl (wt0 rfl) (x_loadN (cs := [.int .i64 (e34.1), .slice Ae34_1 (e34.2.1.length) ce34_1, .slice Ae34_2 (e34.2.2.1.length) ce34_2, .slice Ae34_3 (e34.2.2.2.1.length) ce34_3, .int .i64 (e34.2.2.2.2)]) tv_104 rfl rfl (c_blkN 0 rfl)) rfl rfl fun a_161 HE162 => ?_
                refine dr_two (i := 1) (j := 3) (ls' := #[true, true, true, false, false, false, false, false]) (ls'' := #[true, false, true, true, false, false, false, false]) rfl rfl (by kernel_rfl) rfl rfl (fun K_163 hK164 => ?_) (fun K_163 hK164 => ?_)
                · refine st_x HE162 HH157 (wt0 rfl) (x_load1 tv_53 rfl (c_blk 2 rfl rfl)) rfl rfl fun a_165 HE166 => hK164 _ _ HS158 ?_
                  refine dr_one (i := 3) (ls' := #[true, true, true, true, false, false, false, false]) rfl (by kernel_rfl) rfl fun K_167 hK168 => ?_
                  refine st_call HE166 (wt0 rfl) rfl rfl rfl en_71 rfl rfl (impl_copyMultiRule [.int .i64 (e34.1), .slice Ae34_1 (e34.2.1.length) ce34_1, .slice Ae34_2 (e34.2.2.1.length) ce34_2, .slice Ae34_3 (e34.2.2.2.1.length) ce34_3, .int .i64 (e34.2.2.2.2)] e34 _ (HH157.oldR Qe34) (by omega)) fun e w' hr => ?_
                  obtain ⟨esr36_0, rfl, hor36_0, hbr36⟩ := hr
                  have hr := eMultiRule.read hor36_0
                  obtain ⟨Sr36, HH169⟩ := HH157.newO hbr36 hor36_0
                  obtain ⟨Ar36_0_1, cr36_0_1, Ar36_0_2, cr36_0_2, Ar36_0_3, cr36_0_3, rfl, gr36_0_0, gr36_0_1, gr36_0_2, gr36_0_3, gr36_0_4⟩ := shape_MultiRule hr
                  have jr36_0_0 := gr36_0_0; unfold I64 at jr36_0_0
                  have jr36_0_4 := gr36_0_4; unfold I64 at jr36_0_4
                  have HH170 := HH169.unF rfl
                  obtain ⟨S37, S38, HH171⟩ := HH170.unP rfl
                  have HH172 := HH171.sel [1, 0, 2, 3, 4, 5, 6, 7] (by decide) rfl
                  obtain ⟨S39, S40, HH173⟩ := HH172.unP rfl
                  have HH174 := HH173.sel [1, 0, 2, 3, 4, 5, 6, 7, 8] (by decide) rfl
                  obtain ⟨S41, S42, HH175⟩ := HH174.unP rfl
                  have HH176 := HH175.sel [1, 0, 2, 3, 4, 5, 6, 7, 8, 9] (by decide) rfl
                  have HH177 := HH176.sel [1, 2, 3, 4, 5, 6, 7, 8, 9] (by decide) rfl
                  refine ⟨_, rfl, fun a_178 HE179 => hK168 _ _ (by exact HH177.sel [3, 6, 7, 8] (by decide) rfl) ?_⟩
                  have HS180 := HH177.sel [3, 6, 7, 8] (by decide) rfl
                  refine dr_one (i := 4) (ls' := #[true, true, true, true, true, false, false, false]) rfl (by kernel_rfl) rfl fun K_181 hK182 => ?_
                  refine st_lit (m := 1) (cs := [.int .i64 (e34.1), .slice Ar36_0_1 (e34.2.1.length) cr36_0_1, .slice Ar36_0_2 (e34.2.2.1.length) cr36_0_2, .slice Ar36_0_3 (e34.2.2.2.1.length) cr36_0_3, .int .i64 (e34.2.2.2.2)]) (e := 104) HE179 HH177 (run_lit ts_53 HE179 (vs := [.agg #[.int .i64 (e34.1), .slice Ar36_0_1 (e34.2.1.length) cr36_0_1, .slice Ar36_0_2 (e34.2.2.1.length) cr36_0_2, .slice Ar36_0_3 (e34.2.2.2.1.length) cr36_0_3, .int .i64 (e34.2.2.2.2)]]) rfl rfl (by simp [Value.cells]) rfl (by decide)) (wt0 rfl) rfl rfl fun q43 a_183 w' HE184 HH185 => hK182 _ _ (by exact HH185.sel [4, 7, 8, 9] (by decide) rfl) ?_
                  have HS186 := HH185.sel [4, 7, 8, 9] (by decide) rfl
                  refine dr_one (i := 5) (ls' := #[true, true, true, true, true, true, false, false]) rfl (by kernel_rfl) rfl fun K_187 hK188 => ?_
                  have HH189 := HH185.sel [3, 2, 1, 0, 4, 5, 6, 7, 8, 9] (by decide) rfl
                  have HH190 := HH189.sel [2, 0, 1, 3, 4, 5, 6, 7, 8, 9] (by decide) rfl
                  have HH191 := HH190.pairB (F := eInt) (c2 := [.int .i64 (e34.2.2.2.2)]) (y := e34.2.2.2.2) (oI (by exact ⟨by omega, by omega⟩))
                  have HH192 := HH191.sel [2, 0, 1, 3, 4, 5, 6, 7, 8, 9] (by decide) rfl
                  have HH193 := HH192.pair
                  have HH194 := HH193.sel [1, 0, 2, 3, 4, 5, 6, 7, 8] (by decide) rfl
                  have HH195 := HH194.pair
                  have HH196 := HH195.pairF (E := eInt) (c1 := [.int .i64 (e34.1)]) (x := e34.1) (oI (by exact ⟨by omega, by omega⟩))
                  obtain ⟨S47, HH197⟩ : ∃ S, Held Nob w (rO eMultiRule S [.int .i64 (e34.1), .slice Ar36_0_1 (e34.2.1.length) cr36_0_1, .slice Ar36_0_2 (e34.2.2.1.length) cr36_0_2, .slice Ar36_0_3 (e34.2.2.2.1.length) cr36_0_3, .int .i64 (e34.2.2.2.2)] e34 :: _) _ := ⟨_, HH196⟩
                  refine st_app1 HE184 HH197 ts_53 [3, 0, 1, 2, 4, 5, 6, 7] (by decide) rfl rfl rfl (by simp [Value.oneCell']) (by unfold maxLen; first | omega | (simp; done) | (simp; omega)) (by first | omega | (simp; done) | (simp; omega)) (wt0 rfl) rfl fun A44 c45 S46 a_198 w' HE199 HH200 => hK188 _ _ (by exact HH200.sel [2, 4, 5, 6] (by decide) rfl) ?_
                  have HS201 := HH200.sel [2, 4, 5, 6] (by decide) rfl
                  refine dr_take (i := 6) (ls' := #[true, true, true, true, true, true, true, false]) HE199 HS201 rfl (by kernel_rfl) (by kernel_rfl) (by kernel_rfl) (fun _ _ _ h => h) rfl (wt0 rfl) (x_fieldAddr fa_55_3 rfl) rfl rfl fun a_202 HE203 => ?_
                  refine dr_one (i := 7) (ls' := #[true, true, true, true, true, true, true, true]) rfl (by kernel_rfl) rfl fun K_204 hK205 => ?_
                  refine st_store (vs := [.slice A44 (((a0.2.2.2.take i) ++ [e34]).length) c45]) 3 HE203 HH200 tv_53 rfl rfl rfl rfl rfl rfl (by simp [Value.oneCell']) (wt0 rfl) fun w' HH206 => hK205 _ _ (by exact HH206.sel [2, 4, 5, 6] (by decide) rfl) ?_
                  have HS207 := HH206.sel [2, 4, 5, 6] (by decide) rfl
                  refine dr_done (by kernel_rfl) ?_
                  clear HH156 a_151 HE152 a_159 HE160 a_161 HE162 K_163 hK164 HH157 HH169 HH170 HH171 HH172 HH173 HH174 HH175 HH176 a_165 HE166 HS158 K_167 hK168 a_178 HE179 HH177 HS180 K_181 hK182 HH185 HH189 HH190 HH191 HH192 HH193 HH194 HH195 HH196 a_183 HE184 HH197 HS186 a_198 HE199 K_187 hK188 HH200 HS201 hK205 K_204
                  exact nrm ⟨_, _, _, _, _, _, _, _, _, _, HE203.sub ⟨rfl, rfl, rfl, rfl, rfl, rfl, rfl, trivial⟩, HH206.sel [0, 1, 2, 3, 4, 5, 6] (by decide) rfl⟩
                · refine st_call HE162 (wt0 rfl) rfl rfl rfl en_71 rfl rfl (impl_copyMultiRule [.int .i64 (e34.1), .slice Ae34_1 (e34.2.1.length) ce34_1, .slice Ae34_2 (e34.2.2.1.length) ce34_2, .slice Ae34_3 (e34.2.2.2.1.length) ce34_3, .int .i64 (e34.2.2.2.2)] e34 _ (HH157.oldR Qe34) (by omega)) fun e w' hr => ?_
                  obtain ⟨esr48_0, rfl, hor48_0, hbr48⟩ := hr
                  have hr := eMultiRule.read hor48_0
                  obtain ⟨Sr48, HH208⟩ := HH157.newO hbr48 hor48_0
                  obtain ⟨Ar48_0_1, cr48_0_1, Ar48_0_2, cr48_0_2, Ar48_0_3, cr48_0_3, rfl, gr48_0_0, gr48_0_1, gr48_0_2, gr48_0_3, gr48_0_4⟩ := shape_MultiRule hr
                  have jr48_0_0 := gr48_0_0; unfold I64 at jr48_0_0
                  have jr48_0_4 := gr48_0_4; unfold I64 at jr48_0_4
                  have HH209 := HH208.unF rfl
                  obtain ⟨S49, S50, HH210⟩ := HH209.unP rfl
                  have HH211 := HH210.sel [1, 0, 2, 3, 4, 5, 6, 7] (by decide) rfl
                  obtain ⟨S51, S52, HH212⟩ := HH211.unP rfl
                  have HH213 := HH212.sel [1, 0, 2, 3, 4, 5, 6, 7, 8] (by decide) rfl
                  obtain ⟨S53, S54, HH214⟩ := HH213.unP rfl
                  have HH215 := HH214.sel [1, 0, 2, 3, 4, 5, 6, 7, 8, 9] (by decide) rfl
                  have HH216 := HH215.sel [1, 2, 3, 4, 5, 6, 7, 8, 9] (by decide) rfl
                  refine ⟨_, rfl, fun a_217 HE218 => hK164 _ _ (by exact HH216.sel [3, 6, 7, 8] (by decide) rfl) ?_⟩
                  have HS219 := HH216.sel [3, 6, 7, 8] (by decide) rfl
                  refine dr_two (i := 1) (j := 4) (ls' := #[true, true, true, true, false, false, false, false]) (ls'' := #[true, false, true, true, true, false, false, false]) rfl rfl (by kernel_rfl) rfl rfl (fun K_220 hK221 => ?_) (fun K_220 hK221 => ?_)
                  · refine st_x HE218 HH216 (wt0 rfl) (x_load1 tv_53 rfl (c_blk 5 rfl rfl)) rfl rfl fun a_222 HE223 => hK221 _ _ HS219 ?_
                    refine dr_one (i := 4) (ls' := #[true, true, true, true, true, false, false, false]) rfl (by kernel_rfl) rfl fun K_224 hK225 => ?_
                    refine st_lit (m := 1) (cs := [.int .i64 (e34.1), .slice Ar48_0_1 (e34.2.1.length) cr48_0_1, .slice Ar48_0_2 (e34.2.2.1.length) cr48_0_2, .slice Ar48_0_3 (e34.2.2.2.1.length) cr48_0_3, .int .i64 (e34.2.2.2.2)]) (e := 104) HE223 HH216 (run_lit ts_53 HE223 (vs := [.agg #[.int .i64 (e34.1), .slice Ar48_0_1 (e34.2.1.length) cr48_0_1, .slice Ar48_0_2 (e34.2.2.1.length) cr48_0_2, .slice Ar48_0_3 (e34.2.2.2.1.length) cr48_0_3, .int .i64 (e34.2.2.2.2)]]) rfl rfl (by simp [Value.cells]) rfl (by decide)) (wt0 rfl) rfl rfl fun q55 a_226 w' HE227 HH228 => hK225 _ _ (by exact HH228.sel [4, 7, 8, 9] (by decide) rfl) ?_
                    have HS229 := HH228.sel [4, 7, 8, 9] (by decide) rfl
                    refine dr_one (i := 5) (ls' := #[true, true, true, true, true, true, false, false]) rfl (by kernel_rfl) rfl fun K_230 hK231 => ?_
                    have HH232 := HH228.sel [3, 2, 1, 0, 4, 5, 6, 7, 8, 9] (by decide) rfl
                    have HH233 := HH232.sel [2, 0, 1, 3, 4, 5, 6, 7, 8, 9] (by decide) rfl
                    have HH234 := HH233.pairB (F := eInt) (c2 := [.int .i64 (e34.2.2.2.2)]) (y := e34.2.2.2.2) (oI (by exact ⟨by omega, by omega⟩))
                    have HH235 := HH234.sel [2, 0, 1, 3, 4, 5, 6, 7, 8, 9] (by decide) rfl
                    have HH236 := HH235.pair
                    have HH237 := HH236.sel [1, 0, 2, 3, 4, 5, 6, 7, 8] (by decide) rfl
                    have HH238 := HH237.pair
                    have HH239 := HH238.pairF (E := eInt) (c1 := [.int .i64 (e34.1)]) (x := e34.1) (oI (by exact ⟨by omega, by omega⟩))
                    obtain ⟨S59, HH240⟩ : ∃ S, Held Nob w (rO eMultiRule S [.int .i64 (e34.1), .slice Ar48_0_1 (e34.2.1.length) cr48_0_1, .slice Ar48_0_2 (e34.2.2.1.length) cr48_0_2, .slice Ar48_0_3 (e34.2.2.2.1.length) cr48_0_3, .int .i64 (e34.2.2.2.2)] e34 :: _) _ := ⟨_, HH239⟩
                    refine st_app1 HE227 HH240 ts_53 [3, 0, 1, 2, 4, 5, 6, 7] (by decide) rfl rfl rfl (by simp [Value.oneCell']) (by unfold maxLen; first | omega | (simp; done) | (simp; omega)) (by first | omega | (simp; done) | (simp; omega)) (wt0 rfl) rfl fun A56 c57 S58 a_241 w' HE242 HH243 => hK231 _ _ (by exact HH243.sel [2, 4, 5, 6] (by decide) rfl) ?_
                    have HS244 := HH243.sel [2, 4, 5, 6] (by decide) rfl
                    refine dr_take (i := 6) (ls' := #[true, true, true, true, true, true, true, false]) HE242 HS244 rfl (by kernel_rfl) (by kernel_rfl) (by kernel_rfl) (fun _ _ _ h => h) rfl (wt0 rfl) (x_fieldAddr fa_55_3 rfl) rfl rfl fun a_245 HE246 => ?_
                    refine dr_one (i := 7) (ls' := #[true, true, true, true, true, true, true, true]) rfl (by kernel_rfl) rfl fun K_247 hK248 => ?_
                    refine st_store (vs := [.slice A56 (((a0.2.2.2.take i) ++ [e34]).length) c57]) 3 HE246 HH243 tv_53 rfl rfl rfl rfl rfl rfl (by simp [Value.oneCell']) (wt0 rfl) fun w' HH249 => hK248 _ _ (by exact HH249.sel [2, 4, 5, 6] (by decide) rfl) ?_
                    have HS250 := HH249.sel [2, 4, 5, 6] (by decide) rfl
                    refine dr_done (by kernel_rfl) ?_
                    clear HH156 a_151 HE152 a_159 HE160 HH157 HH208 HH209 HH210 HH211 HH212 HH213 HH214 HH215 a_161 HE162 HS158 K_163 hK164 a_217 HE218 K_220 hK221 a_222 HE223 HH216 HS219 K_224 hK225 HH228 HH232 HH233 HH234 HH235 HH236 HH237 HH238 HH239 a_226 HE227 HH240 HS229 a_241 HE242 K_230 hK231 HH243 HS244 hK248 K_247
                    exact nrm ⟨_, _, _, _, _, _, _, _, _, _, HE246.sub ⟨rfl, rfl, rfl, rfl, rfl, rfl, rfl, trivial⟩, HH249.sel [0, 1, 2, 3, 4, 5, 6] (by decide) rfl⟩
                  · refine st_lit (m := 1) (cs := [.int .i64 (e34.1), .slice Ar48_0_1 (e34.2.1.length) cr48_0_1, .slice Ar48_0_2 (e34.2.2.1.length) cr48_0_2, .slice Ar48_0_3 (e34.2.2.2.1.length) cr48_0_3, .int .i64 (e34.2.2.2.2)]) (e := 104) HE218 HH216 (run_lit ts_53 HE218 (vs := [.agg #[.int .i64 (e34.1), .slice Ar48_0_1 (e34.2.1.length) cr48_0_1, .slice Ar48_0_2 (e34.2.2.1.length) cr48_0_2, .slice Ar48_0_3 (e34.2.2.2.1.length) cr48_0_3, .int .i64 (e34.2.2.2.2)]]) rfl rfl (by simp [Value.cells]) rfl (by decide)) (wt0 rfl) rfl rfl fun q60 a_251 w' HE252 HH253 => hK221 _ _ (by exact HH253.sel [4, 7, 8, 9] (by decide) rfl) ?_
                    have HS254 := HH253.sel [4, 7, 8, 9] (by decide) rfl
                    refine dr_one (i := 1) (ls' := #[true, true, true, true, true, false, false, false]) rfl (by kernel_rfl) rfl fun K_255 hK256 => ?_
                    refine st_x HE252 HH253 (wt0 rfl) (x_load1 tv_53 rfl (c_blk 6 rfl rfl)) rfl rfl fun a_257 HE258 => hK256 _ _ HS254 ?_
                    refine dr_one (i := 5) (ls' := #[true, true, true, true, true, true, false, false]) rfl (by kernel_rfl) rfl fun K_259 hK260 => ?_
                    have HH261 := HH253.sel [3, 2, 1, 0, 4, 5, 6, 7, 8, 9] (by decide) rfl
                    have HH262 := HH261.sel [2, 0, 1, 3, 4, 5, 6, 7, 8, 9] (by decide) rfl
                    have HH263 := HH262.pairB (F := eInt) (c2 := [.int .i64 (e34.2.2.2.2)]) (y := e34.2.2.2.2) (oI (by exact ⟨by omega, by omega⟩))
                    have HH264 := HH263.sel [2, 0, 1, 3, 4, 5, 6, 7, 8, 9] (by decide) rfl
                    have HH265 := HH264.pair
                    have HH266 := HH265.sel [1, 0, 2, 3, 4, 5, 6, 7, 8] (by decide) rfl
                    have HH267 := HH266.pair
                    have HH268 := HH267.pairF (E := eInt) (c1 := [.int .i64 (e34.1)]) (x := e34.1) (oI (by exact ⟨by omega, by omega⟩))
                    obtain ⟨S64, HH269⟩ : ∃ S, Held Nob w (rO eMultiRule S [.int .i64 (e34.1), .slice Ar48_0_1 (e34.2.1.length) cr48_0_1, .slice Ar48_0_2 (e34.2.2.1.length) cr48_0_2, .slice Ar48_0_3 (e34.2.2.2.1.length) cr48_0_3, .int .i64 (e34.2.2.2.2)] e34 :: _) _ := ⟨_, HH268⟩
                    refine st_app1 HE258 HH269 ts_53 [3, 0, 1, 2, 4, 5, 6, 7] (by decide) rfl rfl rfl (by simp [Value.oneCell']) (by unfold maxLen; first | omega | (simp; done) | (simp; omega)) (by first | omega | (simp; done) | (simp; omega)) (wt0 rfl) rfl fun A61 c62 S63 a_270 w' HE271 HH272 => hK260 _ _ (by exact HH272.sel [2, 4, 5, 6] (by decide) rfl) ?_
                    have HS273 := HH272.sel [2, 4, 5, 6] (by decide) rfl
                    refine dr_take (i := 6) (ls' := #[true, true, true, true, true, true, true, false]) HE271 HS273 rfl (by kernel_rfl) (by kernel_rfl) (by kernel_rfl) (fun _ _ _ h => h) rfl (wt0 rfl) (x_fieldAddr fa_55_3 rfl) rfl rfl fun a_274 HE275 => ?_
                    refine dr_one (i := 7) (ls' := #[true, true, true, true, true, true, true, true]) rfl (by kernel_rfl) rfl fun K_276 hK277 => ?_
                    refine st_store (vs := [.slice A61 (((a0.2.2.2.take i) ++ [e34]).length) c62]) 3 HE275 HH272 tv_53 rfl rfl rfl rfl rfl rfl (by simp [Value.oneCell']) (wt0 rfl) fun w' HH278 => hK277 _ _ (by exact HH278.sel [2, 4, 5, 6] (by decide) rfl) ?_
                    have HS279 := HH278.sel [2, 4, 5, 6] (by decide) rfl
                    refine dr_done (by kernel_rfl) ?_
                    clear HH156 a_151 HE152 a_159 HE160 HH157 HH208 HH209 HH210 HH211 HH212 HH213 HH214 HH215 a_161 HE162 HS158 K_163 hK164 a_217 HE218 HH216 HS219 K_220 hK221 a_251 HE252 K_255 hK256 HH253 HH261 HH262 HH263 HH264 HH265 HH266 HH267 HH268 a_257 HE258 HH269 HS254 a_270 HE271 K_259 hK260 HH272 HS273 hK277 K_276
                    exact nrm ⟨_, _, _, _, _, _, _, _, _, _, HE275.sub ⟨rfl, rfl, rfl, rfl, rfl, rfl, rfl, trivial⟩, HH278.sel [0, 1, 2, 3, 4, 5, 6] (by decide) rfl⟩
              · rintro a_280 w' ⟨S46, A44, c45, q43, Ar36_0_1, cr36_0_1, Ar36_0_2, cr36_0_2, Ar36_0_3, cr36_0_3, HE281, HH282⟩
                refine blk_n ?_
                refine nrm ?_
                refine rg ?_
                refine pl_x HE281 HH282 (wt0 rfl) (x_add rfl rfl (by exact ⟨by omega, by omega⟩)) rfl rfl fun a_283 HE284 => ?_
                refine pl_x HE284 HH282 (wt0 rfl) (x_move rfl) rfl rfl fun a_285 HE286 => ?_
                refine wpList_nil ?_
                clear a_151 HE152 HH156 a_280 HE281 a_283 HE284
                have E65 : (a0.2.2.2.take (i + 1)) = ((a0.2.2.2.take i) ++ [e34]) := by
                  rw [List.take_succ_eq_append_getElem (by omega), ← xe34]
                exact nrm ⟨a0.2.2.2.length - (i + 1), (by omega), i + 1, A44, c45, S46, rfl, HE286.sub ⟨(lkI rfl (by first | rfl | omega | (simp [hc25, hc27, hc28, hc29, p32_0, hc33, xe34]; done))), rfl, rfl, rfl, rfl, rfl, rfl, trivial⟩, ((HH282.sel [0, 3, 4, 5, 6] (by decide) rfl).to (by first | rfl | (rw [E65]; done) | (rw [E65]; rfl) | (simp only [E65]; done) | (simp only [E65]; rfl) | (rw [E65]; simp only [List.length_set]; done))), (by first | omega | assumption | (simp; done) | simp_all)⟩
            · refine wp_exit ?_
              refine (thn_exit (thn_exit (blk_hit ?_)))
              refine nrm ?_
              refine wp_seq ?_
              refine wp_seq ?_
              refine rg ?_
              refine pl_x HE144 HH142 (wt0 rfl) (x_fieldAddr fa_55_2 rfl) rfl rfl fun a_287 HE288 => ?_
              refine pl_x HE288 HH142 (wt0 rfl) (x_load1 tv_2 rfl (c_blk 4 rfl rfl)) rfl rfl fun a_289 HE290 => ?_
              refine pl_x HE290 HH142 (wt0 rfl) (x_move rfl) rfl rfl fun a_291 HE292 => ?_
              refine wpList_nil ?_
              clear a_143 HE144 a_287 HE288 a_289 HE290
              refine nrm ?_
              refine wp_block ?_
              refine lp (fun m a w' => ∃ (k : Nat) (A_6_3 : Option Addr) (c_6_3 : Nat) (S_6_3 : Nat → Prop), m = a0.2.2.1.toNat - k ∧ Env 126 [(64, .int .i64 (k : Int)), (2, .pointer (some ⟨q21, 0, none⟩)), (3, .pointer (some ⟨q22, 0, none⟩)), (4, .pointer (some ⟨q23, 0, none⟩)), (6, .pointer (some ⟨q30, 0, none⟩)), (63, .int .i64 (a0.2.2.1))] a ∧ Held Nob w [rVec eMultiRule 104 S_6_3 A_6_3 c_6_3 (seqB a0 k), rBlk q30 55 [.int .i64 a0.1, .int .i64 a0.2.1, .int .i64 (a0.2.2.1 + a1.2.2.1), .slice A_6_3 (List.length (seqB a0 k)) c_6_3], rBlk q23 55 [.int .i64 (0), .int .i64 (0), .int .i64 (0), .slice none (0) 0], rBlk q22 55 [.int .i64 (a1.1), .int .i64 (a1.2.1), .int .i64 (a1.2.2.1), .slice Az1_3 (a1.2.2.2.length) cz1_3], rBlk q21 55 [.int .i64 (a0.1), .int .i64 (a0.2.1), .int .i64 (a0.2.2.1), .slice Az0_3 (a0.2.2.2.length) cz0_3]] w' ∧ ((k : Int) ≤ a0.2.2.1)) (a0.2.2.1.toNat - (0)) ?_ ?_
              · have E66 : (seqB a0 0) = (a0.2.2.2.take i) := by
                  rw [seqB_zero, List.take_of_length_le (by omega)]
                exact ⟨0, A_6_3, c_6_3, S_6_3, rfl, HE292.sub ⟨(lkI rfl (by first | rfl | omega | (simp [hc25, hc27, hc28, hc29, p32_0, hc33]; done))), rfl, rfl, rfl, rfl, rfl, trivial⟩, ((HH142.sel [0, 1, 2, 3, 4] (by decide) rfl).to (by first | rfl | (rw [E66]; done) | (rw [E66]; rfl) | (simp only [E66]; done) | (simp only [E66]; rfl) | (rw [E66]; simp only [List.length_set]; done))), (by first | omega | assumption | (simp; done) | simp_all)⟩
              · rintro m a_293 w' ⟨k, A_6_3, c_6_3, S_6_3, rfl, HE294, HH295, p67_0⟩
                refine wp_seq ?_
                refine rg ?_
                refine pl_x HE294 HH295 (wt0 rfl) (x_lss rfl rfl) rfl rfl fun a_296 HE297 => ?_
                refine wpList_nil ?_
                clear a_291 HE292 HH142 a_293 HE294
                refine nrm ?_
                refine wp_seq ?_
                refine cnd_d HE297 rfl (fun hc68 => ?_) (fun hc68 => ?_)
                · refine wp_skip ?_
                  refine nrm ?_
                  refine wp_seq ?_
                  refine wp_block ?_
                  refine wp_seq ?_
                  refine rg ?_
                  refine pl_x HE297 HH295 (wt0 rfl) (x_move rfl) rfl rfl fun a_298 HE299 => ?_
                  refine pl_x HE299 HH295 (wt0 rfl) (x_assign rfl) rfl rfl fun a_300 HE301 => ?_
                  refine wpList_nil ?_
                  clear a_296 HE297 a_298 HE299
                  refine nrm ?_
                  refine wp_seq ?_
                  refine rg ?_
                  refine pl_x HE301 HH295 (wt0 rfl) (x_loadN (cs := [.int .i64 (a0.1), .int .i64 (a0.2.1), .int .i64 (a0.2.2.1), .slice Az0_3 (a0.2.2.2.length) cz0_3]) tv_55 rfl rfl (c_blkN 4 rfl)) rfl rfl fun a_302 HE303 => ?_
                  refine pl_x HE303 HH295 (wt0 rfl) (x_move rfl) rfl rfl fun a_304 HE305 => ?_
                  refine pl fun K_306 hK307 => ?_
                  refine st_call HE305 (wt0 rfl) rfl rfl rfl en_66 rfl rfl (impl_haltingReadsV [.int .i64 (a0.1), .int .i64 (a0.2.1), .int .i64 (a0.2.2.1), .slice Az0_3 (a0.2.2.2.length) cz0_3] a0 (k : Int) _ (HH295.oldR H0) (by assumption) (by omega) (by omega)) fun e w' hr => ?_
                  obtain ⟨Ar69_0, cr69_0, Sr69_0, rfl, hbr69⟩ := hr
                  have HH308 := HH295.app hbr69
                  clear hbr69
                  have HH309 : Held Nob w ([rVec (eSl eInt) 37 Sr69_0 Ar69_0 cr69_0 (hReads a0 (k : Int)), rVec eMultiRule 104 S_6_3 A_6_3 c_6_3 (seqB a0 k), rBlk q30 55 [.int .i64 (a0.1), .int .i64 (a0.2.1), .int .i64 ((a0.2.2.1 + a1.2.2.1)), .slice A_6_3 ((List.length (seqB a0 k))) c_6_3], rBlk q23 55 [.int .i64 (0), .int .i64 (0), .int .i64 (0), .slice none (0) 0], rBlk q22 55 [.int .i64 (a1.1), .int .i64 (a1.2.1), .int .i64 (a1.2.2.1), .slice Az1_3 (a1.2.2.2.length) cz1_3], rBlk q21 55 [.int .i64 (a0.1), .int .i64 (a0.2.1), .int .i64 (a0.2.2.1), .slice Az0_3 (a0.2.2.2.length) cz0_3]]) _ := HH308
                  refine ⟨_, rfl, fun a_310 HE311 => hK307 _ _ ?_⟩
                  refine pl_x HE311 HH309 (wt0 rfl) (x_len Try.underlying50 rfl) rfl rfl fun a_312 HE313 => ?_
                  refine pl_x HE313 HH309 (wt0 rfl) (x_move rfl) rfl rfl fun a_314 HE315 => ?_
                  refine wpList_nil ?_
                  clear a_300 HE301 a_302 HE303 HH295 HH308 a_304 HE305 a_310 HE311 a_312 HE313 hK307 K_306
                  refine nrm ?_
                  refine wp_block ?_
                  obtain ⟨css, Sx, Sy, hcl, HH316⟩ := HH309.explode one_L
                  have HE317 := HE315.castS (t := 69) (m' := List.length css) rfl hcl.symm
                  refine lp (fun m a w' => ∃ (v : Nat) (A_6_3 : Option Addr) (c_6_3 : Nat) (S_6_3 : Nat → Prop) (S_els : Nat → Prop), m = (hReads a0 (k : Int)).length - v ∧ Env 126 [(71, .int .i64 (v : Int)), (2, .pointer (some ⟨q21, 0, none⟩)), (3, .pointer (some ⟨q22, 0, none⟩)), (4, .pointer (some ⟨q23, 0, none⟩)), (6, .pointer (some ⟨q30, 0, none⟩)), (9, .int .i64 ((k : Int))), (63, .int .i64 (a0.2.2.1)), (64, .int .i64 ((k : Int))), (69, .slice Ar69_0 ((List.length css)) cr69_0), (70, .int .i64 (((hReads a0 (k : Int)).length : Int)))] a ∧ Held Nob w [rVec eMultiRule 104 S_6_3 A_6_3 c_6_3 (seqB a0 k ++ ((hReads a0 (k : Int)).take v).map (haltRl a0 (k : Int))), rEls (eSl eInt) S_els ((css.zip (hReads a0 (k : Int))).drop v), rBlk q30 55 [.int .i64 a0.1, .int .i64 a0.2.1, .int .i64 (a0.2.2.1 + a1.2.2.1), .slice A_6_3 (List.length (seqB a0 k ++ ((hReads a0 (k : Int)).take v).map (haltRl a0 (k : Int)))) c_6_3], rVec (eRaw (eSl eInt).size (eSl eInt).pos) 37 Sx Ar69_0 cr69_0 css, rBlk q23 55 [.int .i64 (0), .int .i64 (0), .int .i64 (0), .slice none (0) 0], rBlk q22 55 [.int .i64 (a1.1), .int .i64 (a1.2.1), .int .i64 (a1.2.2.1), .slice Az1_3 (a1.2.2.2.length) cz1_3], rBlk q21 55 [.int .i64 (a0.1), .int .i64 (a0.2.1), .int .i64 (a0.2.2.1), .slice Az0_3 (a0.2.2.2.length) cz0_3]] w' ∧ (v ≤ (hReads a0 (k : Int)).length)) ((hReads a0 (k : Int)).length - (0)) ?_ ?_
                  · have E70 : (seqB a0 k ++ ((hReads a0 (k : Int)).take 0).map (haltRl a0 (k : Int))) = (seqB a0 k) := by
                      simp
                    have E71 : ((css.zip (hReads a0 (k : Int))).drop 0) = (css.zip (hReads a0 (k : Int))) := by rfl
                    exact ⟨0, A_6_3, c_6_3, S_6_3, Sy, rfl, HE317.sub ⟨(lkI rfl (by first | rfl | omega | (simp [hc25, hc27, hc28, hc29, p32_0, hc33, p67_0, hc68]; done))), rfl, rfl, rfl, rfl, rfl, rfl, rfl, rfl, rfl, trivial⟩, ((HH316.sel [2, 1, 3, 0, 4, 5, 6] (by decide) rfl).to (by first | rfl | (rw [E70, E71]; done) | (rw [E70, E71]; rfl) | (simp only [E70, E71]; done) | (simp only [E70, E71]; rfl) | (rw [E70, E71]; simp only [List.length_set]; done))), (by first | omega | assumption | (simp; done) | simp_all)⟩
                  · rintro m a_318 w' ⟨v, A_6_3, c_6_3, S_6_3, S_els, rfl, HE319, HH320, p72_0⟩
                    have hb1 := seqB_len hva k
                    have hb2 := hReads_len (k : Int) hva
                    have ol : (seqB a0 k ++ ((hReads a0 (k : Int)).take v).map (haltRl a0 (k : Int))).length = (seqB a0 k).length + v := by rw [List.length_append, List.length_map, List.length_take]; omega
                    refine wp_seq ?_
                    refine rg ?_
                    refine pl_x HE319 HH320 (wt0 rfl) (x_lss rfl rfl) rfl rfl fun a_321 HE322 => ?_
                    refine wpList_nil ?_
                    clear HH309 HE315 a_314 HE317 HH316 a_318 HE319
                    refine nrm ?_
                    refine wp_seq ?_
                    refine cnd_d HE322 rfl (fun hc73 => ?_) (fun hc73 => ?_)
                    · refine wp_skip ?_
                      refine nrm ?_
                      refine wp_seq ?_
                      refine wp_block ?_
                      refine wp_seq ?_
                      refine rg ?_
                      have ke74 : v < (List.length css) := by omega
                      obtain ⟨be74, rfl⟩ := HH320.rawAt (i := 3) rfl ke74
                      refine pl_x HE322 HH320 (wt0 rfl) (x_indexAddr ts_50 rfl rfl rfl rfl ke74) rfl rfl fun a_323 HE324 => ?_
                      have kex76 : v < List.length (hReads a0 (k : Int)) := by omega
                      obtain ⟨es75, xes75⟩ : ∃ es_, css[v]? = some es_ := ⟨_, List.getElem?_eq_getElem ke74⟩
                      obtain ⟨ex76, xex76⟩ : ∃ x_, x_ = (hReads a0 (k : Int))[v] := ⟨_, rfl⟩
                      have HH325 := HH320.sel [1, 0, 2, 3, 4, 5, 6] (by decide) rfl
                      have HH326 := HH325.elsTo (zip_drop_at xes75 xex76)
                      obtain ⟨S79, S80, HH327⟩ := HH326.peel
                      obtain ⟨A77, c78, rfl⟩ := HH327.oSlice (es := es75) (x := ex76) (i := 0) rfl
                      have HH328 : Held Nob w [rSo eInt S79 A77 c78 ex76, rEls (eSl eInt) S80 ((css.zip (hReads a0 (k : Int))).drop (v + 1)), rVec eMultiRule 104 S_6_3 A_6_3 c_6_3 (seqB a0 k ++ ((hReads a0 (k : Int)).take v).map (haltRl a0 (k : Int))), rBlk q30 55 [.int .i64 (a0.1), .int .i64 (a0.2.1), .int .i64 ((a0.2.2.1 + a1.2.2.1)), .slice A_6_3 ((List.length (seqB a0 k ++ ((hReads a0 (k : Int)).take v).map (haltRl a0 (k : Int))))) c_6_3], rVec (eRaw (eSl eInt).size (eSl eInt).pos) 37 Sx (some ⟨be74, 0, none⟩) cr69_0 css, rBlk q23 55 [.int .i64 (0), .int .i64 (0), .int .i64 (0), .slice none (0) 0], rBlk q22 55 [.int .i64 (a1.1), .int .i64 (a1.2.1), .int .i64 (a1.2.2.1), .slice Az1_3 (a1.2.2.2.length) cz1_3], rBlk q21 55 [.int .i64 (a0.1), .int .i64 (a0.2.1), .int .i64 (a0.2.2.1), .slice Az0_3 (a0.2.2.2.length) cz0_3]] _ := HH327
                      have hzx : (hReads a0 (k : Int))[v]? = some ex76 := by rw [xex76]; exact List.getElem?_eq_getElem _
                      have hleex76 := hReads_each ex76 (by rw [xex76]; exact List.getElem_mem _)
                      refine pl_x HE324 HH328 (wt0 rfl) (x_load1 tv_37 rfl (fun w h => c_rawN 4 rfl rfl xes75 w h 0 _ rfl)) rfl rfl fun a_329 HE330 => ?_
                      refine pl_x HE330 HH328 (wt0 rfl) (x_assign rfl) rfl rfl fun a_331 HE332 => ?_
                      refine wpList_nil ?_
                      clear a_321 HE322 HH320 HH325 HH326 HH327 a_323 HE324 a_329 HE330
                      refine nrm ?_
                      refine wp_join (fun a w' => ∃ (S86 : Nat → Prop), ∃ (A84 : Option Addr), ∃ (c85 : Nat), ∃ (q83 : Nat), ∃ (Ar81_0 : Option Addr), ∃ (cr81_0 : Nat), ∃ (q82 : Nat), Env 126 [(2, .pointer (some ⟨q21, 0, none⟩)), (3, .pointer (some ⟨q22, 0, none⟩)), (4, .pointer (some ⟨q23, 0, none⟩)), (6, .pointer (some ⟨q30, 0, none⟩)), (9, .int .i64 ((k : Int))), (63, .int .i64 (a0.2.2.1)), (64, .int .i64 ((k : Int))), (69, .slice (some ⟨be74, 0, none⟩) ((List.length css)) cr69_0), (70, .int .i64 (((hReads a0 (k : Int)).length : Int))), (71, .int .i64 ((v : Int)))] a ∧ Held Nob w [rVec eMultiRule 104 S86 A84 c85 ((seqB a0 k ++ ((hReads a0 (k : Int)).take v).map (haltRl a0 (k : Int))) ++ [((k : Int), ex76, ex76, (List.replicate ((a0.1).toNat) (0 : Int)), a0.2.2.1)]), rBlk q83 104 [.int .i64 ((k : Int)), .slice A77 (ex76.length) c78, .slice Ar81_0 (ex76.length) cr81_0, .slice (some ⟨q82, 0, none⟩) ((List.replicate ((a0.1).toNat) (0 : Int)).length) ((a0.1).toNat), .int .i64 (a0.2.2.1)], rEls (eSl eInt) S80 ((css.zip (hReads a0 (k : Int))).drop (v + 1)), rBlk q30 55 [.int .i64 (a0.1), .int .i64 (a0.2.1), .int .i64 ((a0.2.2.1 + a1.2.2.1)), .slice A84 (((seqB a0 k ++ ((hReads a0 (k : Int)).take v).map (haltRl a0 (k : Int))) ++ [((k : Int), ex76, ex76, (List.replicate ((a0.1).toNat) (0 : Int)), a0.2.2.1)]).length) c85], rVec (eRaw (eSl eInt).size (eSl eInt).pos) 37 Sx (some ⟨be74, 0, none⟩) cr69_0 css, rBlk q23 55 [.int .i64 (0), .int .i64 (0), .int .i64 (0), .slice none (0) 0], rBlk q22 55 [.int .i64 (a1.1), .int .i64 (a1.2.1), .int .i64 (a1.2.2.1), .slice Az1_3 (a1.2.2.2.length) cz1_3], rBlk q21 55 [.int .i64 (a0.1), .int .i64 (a0.2.1), .int .i64 (a0.2.2.1), .slice Az0_3 (a0.2.2.2.length) cz0_3]] w') ?_ ?_
                      · refine dr_start (Held Nob w [rEls (eSl eInt) S80 ((css.zip (hReads a0 (k : Int))).drop (v + 1)), rVec (eRaw (eSl eInt).size (eSl eInt).pos) 37 Sx (some ⟨be74, 0, none⟩) cr69_0 css, rBlk q23 55 [.int .i64 (0), .int .i64 (0), .int .i64 (0), .slice none (0) 0], rBlk q22 55 [.int .i64 (a1.1), .int .i64 (a1.2.1), .int .i64 (a1.2.2.1), .slice Az1_3 (a1.2.2.2.length) cz1_3], rBlk q21 55 [.int .i64 (a0.1), .int .i64 (a0.2.1), .int .i64 (a0.2.2.1), .slice Az0_3 (a0.2.2.2.length) cz0_3]]) 16 #[false, false, false, false, false, false, false, false, false, false, false, false, false, false, false, false] hmix rfl rfl HH328 (fun _ h => h.sel [1, 4, 5, 6, 7] (by decide) rfl) fun w' HH333 => ?_
                        have HS334 := HH333.sel [1, 4, 5, 6, 7] (by decide) rfl
                        refine dr_take (i := 0) (ls' := #[true, false, false, false, false, false, false, false, false, false, false, false, false, false, false, false]) HE332 HS334 rfl (by kernel_rfl) (by kernel_rfl) (by kernel_rfl) (fun _ _ _ h => h) rfl (wt0 rfl) (x_fieldAddr fa_55_3 rfl) rfl rfl fun a_335 HE336 => ?_
                        refine dr_take (i := 2) (ls' := #[true, false, true, false, false, false, false, false, false, false, false, false, false, false, false, false]) HE336 HS334 rfl (by kernel_rfl) (by kernel_rfl) (by kernel_rfl) (fun _ _ _ h => h) rfl (wt0 rfl) (x_move rfl) rfl rfl fun a_337 HE338 => ?_
                        refine dr_take (i := 3) (ls' := #[true, false, true, true, false, false, false, false, false, false, false, false, false, false, false, false]) HE338 HS334 rfl (by kernel_rfl) (by kernel_rfl) (by kernel_rfl) (fun _ _ _ h => h) rfl (wt0 rfl) (x_move rfl) rfl rfl fun a_339 HE340 => ?_
                        refine dr_take (i := 4) (ls' := #[true, false, true, true, true, false, false, false, false, false, false, false, false, false, false, false]) HE340 HS334 rfl (by kernel_rfl) (by kernel_rfl) (by kernel_rfl) (fun _ _ _ h => h) rfl (wt0 rfl) (x_move rfl) rfl rfl fun a_341 HE342 => ?_
                        refine dr_take (i := 6) (ls' := #[true, false, true, true, true, false, true, false, false, false, false, false, false, false, false, false]) HE342 HS334 rfl (by kernel_rfl) (by kernel_rfl) (by kernel_rfl) (fun _ _ _ h => h) rfl (wt0 rfl) (x_fieldAddr fa_55_0 rfl) rfl rfl fun a_343 HE344 => ?_
                        refine dr_take (i := 7) (ls' := #[true, false, true, true, true, false, true, true, false, false, false, false, false, false, false, false]) HE344 HS334 rfl (by kernel_rfl) (by kernel_rfl) (by kernel_rfl) (fun _ _ _ h => h) rfl (wt0 rfl) (x_load1 tv_2 rfl (c_blk 4 rfl rfl)) rfl rfl fun a_345 HE346 => ?_
                        refine dr_take (i := 9) (ls' := #[true, false, true, true, true, false, true, true, false, true, false, false, false, false, false, false]) HE346 HS334 rfl (by kernel_rfl) (by kernel_rfl) (by kernel_rfl) (fun _ _ _ h => h) rfl (wt0 rfl) (x_fieldAddr fa_55_2 rfl) rfl rfl fun a_347 HE348 => ?_
                        refine dr_take (i := 10) (ls' := #[true, false, true, true, true, false, true, true, false, true, true, false, false, false, false, false]) HE348 HS334 rfl (by kernel_rfl) (by kernel_rfl) (by kernel_rfl) (fun _ _ _ h => h) rfl (wt0 rfl) (x_load1 tv_2 rfl (c_blk 4 rfl rfl)) rfl rfl fun a_349 HE350 => ?_
                        refine dr_three (i := 1) (j := 5) (k := 8) (l1 := #[true, true, true, true, true, false, true, true, false, true, true, false, false, false, false, false]) (l2 := #[true, false, true, true, true, true, true, true, false, true, true, false, false, false, false, false]) (l3 := #[true, false, true, true, true, false, true, true, true, true, true, false, false, false, false, false]) rfl rfl rfl (by kernel_rfl) rfl rfl rfl (fun K_351 hK352 => ?_) (fun K_351 hK352 => ?_) (fun K_351 hK352 => ?_)
                        · refine st_x HE350 HH333 (wt0 rfl) (x_load1 tv_53 rfl (c_blk 3 rfl rfl)) rfl rfl fun a_353 HE354 => hK352 _ _ HS334 ?_
                          refine dr_two (i := 5) (j := 8) (ls' := #[true, true, true, true, true, true, true, true, false, true, true, false, false, false, false, false]) (ls'' := #[true, true, true, true, true, false, true, true, true, true, true, false, false, false, false, false]) rfl rfl (by kernel_rfl) rfl rfl (fun K_355 hK356 => ?_) (fun K_355 hK356 => ?_)
                          · refine st_call HE354 (wt0 rfl) rfl rfl rfl en_72 rfl rfl (Clone_Int64 _ _ ex76 _ (HH333.sl (i := 0) rfl) (by omega)) fun e w' hr => ?_
                            obtain ⟨Ar81_0, cr81_0, rfl, hor81_0, hbr81⟩ := hr
                            obtain ⟨Sr81, HH357⟩ := HH333.newS hbr81 hor81_0
                            refine ⟨_, rfl, fun a_358 HE359 => hK356 _ _ (by exact HH357.sel [2, 5, 6, 7, 8] (by decide) rfl) ?_⟩
                            have HS360 := HH357.sel [2, 5, 6, 7, 8] (by decide) rfl
                            refine dr_one (i := 8) (ls' := #[true, true, true, true, true, true, true, true, true, true, true, false, false, false, false, false]) rfl (by kernel_rfl) rfl fun K_361 hK362 => ?_
                            refine st_make (E := eInt) (x := (0 : Int)) (k := ((a0.1).toNat)) HE359 HH357 ts_37 tv_2 rfl (fun _ => oI ⟨by omega, by omega⟩) rfl rfl (by omega) (by omega) (by omega) (by omega) (wt0 rfl) rfl fun q82 a_363 w' HE364 HH365 => hK362 _ _ (by exact HH365.sel [3, 6, 7, 8, 9] (by decide) rfl) ?_
                            have hlq82 : (List.replicate ((a0.1).toNat) (0 : Int)).length = (a0.1).toNat := List.length_replicate
                            have HS366 := HH365.sel [3, 6, 7, 8, 9] (by decide) rfl
                            refine dr_take (i := 11) (ls' := #[true, true, true, true, true, true, true, true, true, true, true, true, false, false, false, false]) HE364 HS366 rfl (by kernel_rfl) (by kernel_rfl) (by kernel_rfl) (fun _ _ _ h => h) rfl (wt0 rfl) (show XS _ _ _ _ (.agg #[.int .i64 ((k : Int)), .slice A77 (ex76.length) c78, .slice Ar81_0 (ex76.length) cr81_0, .slice (some ⟨q82, 0, none⟩) ((List.replicate ((a0.1).toNat) (0 : Int)).length) ((a0.1).toNat), .int .i64 (a0.2.2.1)]) from x_build (vs := [(0, .int .i64 ((k : Int))), (1, .slice A77 (ex76.length) c78), (2, .slice Ar81_0 (ex76.length) cr81_0), (3, .slice (some ⟨q82, 0, none⟩) ((List.replicate ((a0.1).toNat) (0 : Int)).length) ((a0.1).toNat)), (4, .int .i64 (a0.2.2.1))]) tb_104 rfl (by simp [Value.oneCell'])) rfl rfl fun a_367 HE368 => ?_
                            refine dr_one (i := 12) (ls' := #[true, true, true, true, true, true, true, true, true, true, true, true, true, false, false, false]) rfl (by kernel_rfl) rfl fun K_369 hK370 => ?_
                            refine st_lit (m := 1) (cs := [.int .i64 ((k : Int)), .slice A77 (ex76.length) c78, .slice Ar81_0 (ex76.length) cr81_0, .slice (some ⟨q82, 0, none⟩) ((List.replicate ((a0.1).toNat) (0 : Int)).length) ((a0.1).toNat), .int .i64 (a0.2.2.1)]) (e := 104) HE368 HH365 (run_lit ts_53 HE368 (vs := [.agg #[.int .i64 ((k : Int)), .slice A77 (ex76.length) c78, .slice Ar81_0 (ex76.length) cr81_0, .slice (some ⟨q82, 0, none⟩) ((List.replicate ((a0.1).toNat) (0 : Int)).length) ((a0.1).toNat), .int .i64 (a0.2.2.1)]]) rfl rfl (by simp [Value.cells]) rfl (by decide)) (wt0 rfl) rfl rfl fun q83 a_371 w' HE372 HH373 => hK370 _ _ (by exact HH373.sel [4, 7, 8, 9, 10] (by decide) rfl) ?_
                            have HS374 := HH373.sel [4, 7, 8, 9, 10] (by decide) rfl
                            refine dr_one (i := 13) (ls' := #[true, true, true, true, true, true, true, true, true, true, true, true, true, true, false, false]) rfl (by kernel_rfl) rfl fun K_375 hK376 => ?_
                            have HH377 := HH373.sel [3, 2, 1, 0, 4, 5, 6, 7, 8, 9, 10] (by decide) rfl
                            have HH378 := HH377.sel [2, 0, 1, 3, 4, 5, 6, 7, 8, 9, 10] (by decide) rfl
                            have HH379 := HH378.pairB (F := eInt) (c2 := [.int .i64 (a0.2.2.1)]) (y := a0.2.2.1) (oI (by exact ⟨by omega, by omega⟩))
                            have HH380 := HH379.sel [2, 0, 1, 3, 4, 5, 6, 7, 8, 9, 10] (by decide) rfl
                            have HH381 := HH380.pair
                            have HH382 := HH381.sel [1, 0, 2, 3, 4, 5, 6, 7, 8, 9] (by decide) rfl
                            have HH383 := HH382.pair
                            have HH384 := HH383.pairF (E := eInt) (c1 := [.int .i64 ((k : Int))]) (x := (k : Int)) (oI (by exact ⟨by omega, by omega⟩))
                            obtain ⟨S87, HH385⟩ : ∃ S, Held Nob w (rO eMultiRule S [.int .i64 ((k : Int)), .slice A77 (ex76.length) c78, .slice Ar81_0 (ex76.length) cr81_0, .slice (some ⟨q82, 0, none⟩) ((List.replicate ((a0.1).toNat) (0 : Int)).length) ((a0.1).toNat), .int .i64 (a0.2.2.1)] ((k : Int), ex76, ex76, (List.replicate ((a0.1).toNat) (0 : Int)), a0.2.2.1) :: _) _ := ⟨_, HH384⟩
                            refine st_app1 HE372 HH385 ts_53 [3, 0, 1, 2, 4, 5, 6, 7, 8] (by decide) rfl rfl rfl (by simp [Value.oneCell']) (by unfold maxLen; first | omega | (simp; done) | (simp; omega)) (by first | omega | (simp; done) | (simp; omega)) (wt0 rfl) rfl fun A84 c85 S86 a_386 w' HE387 HH388 => hK376 _ _ (by exact HH388.sel [2, 4, 5, 6, 7] (by decide) rfl) ?_
                            have HS389 := HH388.sel [2, 4, 5, 6, 7] (by decide) rfl
                            refine dr_take (i := 14) (ls' := #[true, true, true, true, true, true, true, true, true, true, true, true, true, true, true, false]) HE387 HS389 rfl (by kernel_rfl) (by kernel_rfl) (by kernel_rfl) (fun _ _ _ h => h) rfl (wt0 rfl) (x_fieldAddr fa_55_3 rfl) rfl rfl fun a_390 HE391 => ?_
                            refine dr_one (i := 15) (ls' := #[true, true, true, true, true, true, true, true, true, true, true, true, true, true, true, true]) rfl (by kernel_rfl) rfl fun K_392 hK393 => ?_
                            refine st_store (vs := [.slice A84 (((seqB a0 k ++ ((hReads a0 (k : Int)).take v).map (haltRl a0 (k : Int))) ++ [((k : Int), ex76, ex76, (List.replicate ((a0.1).toNat) (0 : Int)), a0.2.2.1)]).length) c85]) 3 HE391 HH388 tv_53 rfl rfl rfl rfl rfl rfl (by simp [Value.oneCell']) (wt0 rfl) fun w' HH394 => hK393 _ _ (by exact HH394.sel [2, 4, 5, 6, 7] (by decide) rfl) ?_
                            have HS395 := HH394.sel [2, 4, 5, 6, 7] (by decide) rfl
                            refine dr_done (by kernel_rfl) ?_
                            clear HH328 a_331 HE332 a_335 HE336 a_337 HE338 a_339 HE340 a_341 HE342 a_343 HE344 a_345 HE346 a_347 HE348 a_349 HE350 K_351 hK352 HH333 a_353 HE354 HS334 K_355 hK356 a_358 HE359 HH357 HS360 a_363 HE364 K_361 hK362 a_367 HE368 HH365 HS366 K_369 hK370 HH373 HH377 HH378 HH379 HH380 HH381 HH382 HH383 HH384 a_371 HE372 HH385 HS374 a_386 HE387 K_375 hK376 HH388 HS389 hK393 K_392
                            exact nrm ⟨_, _, _, _, _, _, _, HE391.sub ⟨rfl, rfl, rfl, rfl, rfl, rfl, rfl, rfl, rfl, rfl, trivial⟩, HH394.sel [0, 1, 2, 3, 4, 5, 6, 7] (by decide) rfl⟩
                          · refine st_make (E := eInt) (x := (0 : Int)) (k := ((a0.1).toNat)) HE354 HH333 ts_37 tv_2 rfl (fun _ => oI ⟨by omega, by omega⟩) rfl rfl (by omega) (by omega) (by omega) (by omega) (wt0 rfl) rfl fun q88 a_396 w' HE397 HH398 => hK356 _ _ (by exact HH398.sel [2, 5, 6, 7, 8] (by decide) rfl) ?_
                            have hlq88 : (List.replicate ((a0.1).toNat) (0 : Int)).length = (a0.1).toNat := List.length_replicate
                            have HS399 := HH398.sel [2, 5, 6, 7, 8] (by decide) rfl
                            refine dr_one (i := 5) (ls' := #[true, true, true, true, true, true, true, true, true, true, true, false, false, false, false, false]) rfl (by kernel_rfl) rfl fun K_400 hK401 => ?_
                            refine st_call HE397 (wt0 rfl) rfl rfl rfl en_72 rfl rfl (Clone_Int64 _ _ ex76 _ (HH398.sl (i := 1) rfl) (by omega)) fun e w' hr => ?_
                            obtain ⟨Ar89_0, cr89_0, rfl, hor89_0, hbr89⟩ := hr
                            obtain ⟨Sr89, HH402⟩ := HH398.newS hbr89 hor89_0
                            refine ⟨_, rfl, fun a_403 HE404 => hK401 _ _ (by exact HH402.sel [3, 6, 7, 8, 9] (by decide) rfl) ?_⟩
                            have HS405 := HH402.sel [3, 6, 7, 8, 9] (by decide) rfl
                            refine dr_take (i := 11) (ls' := #[true, true, true, true, true, true, true, true, true, true, true, true, false, false, false, false]) HE404 HS405 rfl (by kernel_rfl) (by kernel_rfl) (by kernel_rfl) (fun _ _ _ h => h) rfl (wt0 rfl) (show XS _ _ _ _ (.agg #[.int .i64 ((k : Int)), .slice A77 (ex76.length) c78, .slice Ar89_0 (ex76.length) cr89_0, .slice (some ⟨q88, 0, none⟩) ((List.replicate ((a0.1).toNat) (0 : Int)).length) ((a0.1).toNat), .int .i64 (a0.2.2.1)]) from x_build (vs := [(0, .int .i64 ((k : Int))), (1, .slice A77 (ex76.length) c78), (2, .slice Ar89_0 (ex76.length) cr89_0), (3, .slice (some ⟨q88, 0, none⟩) ((List.replicate ((a0.1).toNat) (0 : Int)).length) ((a0.1).toNat)), (4, .int .i64 (a0.2.2.1))]) tb_104 rfl (by simp [Value.oneCell'])) rfl rfl fun a_406 HE407 => ?_
                            refine dr_one (i := 12) (ls' := #[true, true, true, true, true, true, true, true, true, true, true, true, true, false, false, false]) rfl (by kernel_rfl) rfl fun K_408 hK409 => ?_
                            refine st_lit (m := 1) (cs := [.int .i64 ((k : Int)), .slice A77 (ex76.length) c78, .slice Ar89_0 (ex76.length) cr89_0, .slice (some ⟨q88, 0, none⟩) ((List.replicate ((a0.1).toNat) (0 : Int)).length) ((a0.1).toNat), .int .i64 (a0.2.2.1)]) (e := 104) HE407 HH402 (run_lit ts_53 HE407 (vs := [.agg #[.int .i64 ((k : Int)), .slice A77 (ex76.length) c78, .slice Ar89_0 (ex76.length) cr89_0, .slice (some ⟨q88, 0, none⟩) ((List.replicate ((a0.1).toNat) (0 : Int)).length) ((a0.1).toNat), .int .i64 (a0.2.2.1)]]) rfl rfl (by simp [Value.cells]) rfl (by decide)) (wt0 rfl) rfl rfl fun q90 a_410 w' HE411 HH412 => hK409 _ _ (by exact HH412.sel [4, 7, 8, 9, 10] (by decide) rfl) ?_
                            have HS413 := HH412.sel [4, 7, 8, 9, 10] (by decide) rfl
                            refine dr_one (i := 13) (ls' := #[true, true, true, true, true, true, true, true, true, true, true, true, true, true, false, false]) rfl (by kernel_rfl) rfl fun K_414 hK415 => ?_
                            have HH416 := HH412.sel [3, 1, 2, 0, 4, 5, 6, 7, 8, 9, 10] (by decide) rfl
                            have HH417 := HH416.sel [2, 0, 1, 3, 4, 5, 6, 7, 8, 9, 10] (by decide) rfl
                            have HH418 := HH417.pairB (F := eInt) (c2 := [.int .i64 (a0.2.2.1)]) (y := a0.2.2.1) (oI (by exact ⟨by omega, by omega⟩))
                            have HH419 := HH418.sel [2, 0, 1, 3, 4, 5, 6, 7, 8, 9, 10] (by decide) rfl
                            have HH420 := HH419.pair
                            have HH421 := HH420.sel [1, 0, 2, 3, 4, 5, 6, 7, 8, 9] (by decide) rfl
                            have HH422 := HH421.pair
                            have HH423 := HH422.pairF (E := eInt) (c1 := [.int .i64 ((k : Int))]) (x := (k : Int)) (oI (by exact ⟨by omega, by omega⟩))
                            obtain ⟨S94, HH424⟩ : ∃ S, Held Nob w (rO eMultiRule S [.int .i64 ((k : Int)), .slice A77 (ex76.length) c78, .slice Ar89_0 (ex76.length) cr89_0, .slice (some ⟨q88, 0, none⟩) ((List.replicate ((a0.1).toNat) (0 : Int)).length) ((a0.1).toNat), .int .i64 (a0.2.2.1)] ((k : Int), ex76, ex76, (List.replicate ((a0.1).toNat) (0 : Int)), a0.2.2.1) :: _) _ := ⟨_, HH423⟩
                            refine st_app1 HE411 HH424 ts_53 [3, 0, 1, 2, 4, 5, 6, 7, 8] (by decide) rfl rfl rfl (by simp [Value.oneCell']) (by unfold maxLen; first | omega | (simp; done) | (simp; omega)) (by first | omega | (simp; done) | (simp; omega)) (wt0 rfl) rfl fun A91 c92 S93 a_425 w' HE426 HH427 => hK415 _ _ (by exact HH427.sel [2, 4, 5, 6, 7] (by decide) rfl) ?_
                            have HS428 := HH427.sel [2, 4, 5, 6, 7] (by decide) rfl
                            refine dr_take (i := 14) (ls' := #[true, true, true, true, true, true, true, true, true, true, true, true, true, true, true, false]) HE426 HS428 rfl (by kernel_rfl) (by kernel_rfl) (by kernel_rfl) (fun _ _ _ h => h) rfl (wt0 rfl) (x_fieldAddr fa_55_3 rfl) rfl rfl fun a_429 HE430 => ?_
                            refine dr_one (i := 15) (ls' := #[true, true, true, true, true, true, true, true, true, true, true, true, true, true, true, true]) rfl (by kernel_rfl) rfl fun K_431 hK432 => ?_
                            refine st_store (vs := [.slice A91 (((seqB a0 k ++ ((hReads a0 (k : Int)).take v).map (haltRl a0 (k : Int))) ++ [((k : Int), ex76, ex76, (List.replicate ((a0.1).toNat) (0 : Int)), a0.2.2.1)]).length) c92]) 3 HE430 HH427 tv_53 rfl rfl rfl rfl rfl rfl (by simp [Value.oneCell']) (wt0 rfl) fun w' HH433 => hK432 _ _ (by exact HH433.sel [2, 4, 5, 6, 7] (by decide) rfl) ?_
                            have HS434 := HH433.sel [2, 4, 5, 6, 7] (by decide) rfl
                            refine dr_done (by kernel_rfl) ?_
                            clear HH328 a_331 HE332 a_335 HE336 a_337 HE338 a_339 HE340 a_341 HE342 a_343 HE344 a_345 HE346 a_347 HE348 a_349 HE350 K_351 hK352 a_353 HE354 HH333 HS334 K_355 hK356 HH398 a_396 HE397 HS399 a_403 HE404 K_400 hK401 a_406 HE407 HH402 HS405 K_408 hK409 HH412 HH416 HH417 HH418 HH419 HH420 HH421 HH422 HH423 a_410 HE411 HH424 HS413 a_425 HE426 K_414 hK415 HH427 HS428 hK432 K_431
                            exact nrm ⟨_, _, _, _, _, _, _, HE430.sub ⟨rfl, rfl, rfl, rfl, rfl, rfl, rfl, rfl, rfl, rfl, trivial⟩, HH433.sel [0, 1, 2, 3, 4, 5, 6, 7] (by decide) rfl⟩
                        · refine st_call HE350 (wt0 rfl) rfl rfl rfl en_72 rfl rfl (Clone_Int64 _ _ ex76 _ (HH333.sl (i := 0) rfl) (by omega)) fun e w' hr => ?_
                          obtain ⟨Ar95_0, cr95_0, rfl, hor95_0, hbr95⟩ := hr
                          obtain ⟨Sr95, HH435⟩ := HH333.newS hbr95 hor95_0
                          refine ⟨_, rfl, fun a_436 HE437 => hK352 _ _ (by exact HH435.sel [2, 5, 6, 7, 8] (by decide) rfl) ?_⟩
                          have HS438 := HH435.sel [2, 5, 6, 7, 8] (by decide) rfl
                          refine dr_two (i := 1) (j := 8) (ls' := #[true, true, true, true, true, true, true, true, false, true, true, false, false, false, false, false]) (ls'' := #[true, false, true, true, true, true, true, true, true, true, true, false, false, false, false, false]) rfl rfl (by kernel_rfl) rfl rfl (fun K_439 hK440 => ?_) (fun K_439 hK440 => ?_)
                          · refine st_x HE437 HH435 (wt0 rfl) (x_load1 tv_53 rfl (c_blk 4 rfl rfl)) rfl rfl fun a_441 HE442 => hK440 _ _ HS438 ?_
                            refine dr_one (i := 8) (ls' := #[true, true, true, true, true, true, true, true, true, true, true, false, false, false, false, false]) rfl (by kernel_rfl) rfl fun K_443 hK444 => ?_
                            refine st_make (E := eInt) (x := (0 : Int)) (k := ((a0.1).toNat)) HE442 HH435 ts_37 tv_2 rfl (fun _ => oI ⟨by omega, by omega⟩) rfl rfl (by omega) (by omega) (by omega) (by omega) (wt0 rfl) rfl fun q96 a_445 w' HE446 HH447 => hK444 _ _ (by exact HH447.sel [3, 6, 7, 8, 9] (by decide) rfl) ?_
                            have hlq96 : (List.replicate ((a0.1).toNat) (0 : Int)).length = (a0.1).toNat := List.length_replicate
                            have HS448 := HH447.sel [3, 6, 7, 8, 9] (by decide) rfl
                            refine dr_take (i := 11) (ls' := #[true, true, true, true, true, true, true, true, true, true, true, true, false, false, false, false]) HE446 HS448 rfl (by kernel_rfl) (by kernel_rfl) (by kernel_rfl) (fun _ _ _ h => h) rfl (wt0 rfl) (show XS _ _ _ _ (.agg #[.int .i64 ((k : Int)), .slice A77 (ex76.length) c78, .slice Ar95_0 (ex76.length) cr95_0, .slice (some ⟨q96, 0, none⟩) ((List.replicate ((a0.1).toNat) (0 : Int)).length) ((a0.1).toNat), .int .i64 (a0.2.2.1)]) from x_build (vs := [(0, .int .i64 ((k : Int))), (1, .slice A77 (ex76.length) c78), (2, .slice Ar95_0 (ex76.length) cr95_0), (3, .slice (some ⟨q96, 0, none⟩) ((List.replicate ((a0.1).toNat) (0 : Int)).length) ((a0.1).toNat)), (4, .int .i64 (a0.2.2.1))]) tb_104 rfl (by simp [Value.oneCell'])) rfl rfl fun a_449 HE450 => ?_
                            refine dr_one (i := 12) (ls' := #[true, true, true, true, true, true, true, true, true, true, true, true, true, false, false, false]) rfl (by kernel_rfl) rfl fun K_451 hK452 => ?_
                            refine st_lit (m := 1) (cs := [.int .i64 ((k : Int)), .slice A77 (ex76.length) c78, .slice Ar95_0 (ex76.length) cr95_0, .slice (some ⟨q96, 0, none⟩) ((List.replicate ((a0.1).toNat) (0 : Int)).length) ((a0.1).toNat), .int .i64 (a0.2.2.1)]) (e := 104) HE450 HH447 (run_lit ts_53 HE450 (vs := [.agg #[.int .i64 ((k : Int)), .slice A77 (ex76.length) c78, .slice Ar95_0 (ex76.length) cr95_0, .slice (some ⟨q96, 0, none⟩) ((List.replicate ((a0.1).toNat) (0 : Int)).length) ((a0.1).toNat), .int .i64 (a0.2.2.1)]]) rfl rfl (by simp [Value.cells]) rfl (by decide)) (wt0 rfl) rfl rfl fun q97 a_453 w' HE454 HH455 => hK452 _ _ (by exact HH455.sel [4, 7, 8, 9, 10] (by decide) rfl) ?_
                            have HS456 := HH455.sel [4, 7, 8, 9, 10] (by decide) rfl
                            refine dr_one (i := 13) (ls' := #[true, true, true, true, true, true, true, true, true, true, true, true, true, true, false, false]) rfl (by kernel_rfl) rfl fun K_457 hK458 => ?_
                            have HH459 := HH455.sel [3, 2, 1, 0, 4, 5, 6, 7, 8, 9, 10] (by decide) rfl
                            have HH460 := HH459.sel [2, 0, 1, 3, 4, 5, 6, 7, 8, 9, 10] (by decide) rfl
                            have HH461 := HH460.pairB (F := eInt) (c2 := [.int .i64 (a0.2.2.1)]) (y := a0.2.2.1) (oI (by exact ⟨by omega, by omega⟩))
                            have HH462 := HH461.sel [2, 0, 1, 3, 4, 5, 6, 7, 8, 9, 10] (by decide) rfl
                            have HH463 := HH462.pair
                            have HH464 := HH463.sel [1, 0, 2, 3, 4, 5, 6, 7, 8, 9] (by decide) rfl
                            have HH465 := HH464.pair
                            have HH466 := HH465.pairF (E := eInt) (c1 := [.int .i64 ((k : Int))]) (x := (k : Int)) (oI (by exact ⟨by omega, by omega⟩))
                            obtain ⟨S101, HH467⟩ : ∃ S, Held Nob w (rO eMultiRule S [.int .i64 ((k : Int)), .slice A77 (ex76.length) c78, .slice Ar95_0 (ex76.length) cr95_0, .slice (some ⟨q96, 0, none⟩) ((List.replicate ((a0.1).toNat) (0 : Int)).length) ((a0.1).toNat), .int .i64 (a0.2.2.1)] ((k : Int), ex76, ex76, (List.replicate ((a0.1).toNat) (0 : Int)), a0.2.2.1) :: _) _ := ⟨_, HH466⟩
                            refine st_app1 HE454 HH467 ts_53 [3, 0, 1, 2, 4, 5, 6, 7, 8] (by decide) rfl rfl rfl (by simp [Value.oneCell']) (by unfold maxLen; first | omega | (simp; done) | (simp; omega)) (by first | omega | (simp; done) | (simp; omega)) (wt0 rfl) rfl fun A98 c99 S100 a_468 w' HE469 HH470 => hK458 _ _ (by exact HH470.sel [2, 4, 5, 6, 7] (by decide) rfl) ?_
                            have HS471 := HH470.sel [2, 4, 5, 6, 7] (by decide) rfl
                            refine dr_take (i := 14) (ls' := #[true, true, true, true, true, true, true, true, true, true, true, true, true, true, true, false]) HE469 HS471 rfl (by kernel_rfl) (by kernel_rfl) (by kernel_rfl) (fun _ _ _ h => h) rfl (wt0 rfl) (x_fieldAddr fa_55_3 rfl) rfl rfl fun a_472 HE473 => ?_
                            refine dr_one (i := 15) (ls' := #[true, true, true, true, true, true, true, true, true, true, true, true, true, true, true, true]) rfl (by kernel_rfl) rfl fun K_474 hK475 => ?_
                            refine st_store (vs := [.slice A98 (((seqB a0 k ++ ((hReads a0 (k : Int)).take v).map (haltRl a0 (k : Int))) ++ [((k : Int), ex76, ex76, (List.replicate ((a0.1).toNat) (0 : Int)), a0.2.2.1)]).length) c99]) 3 HE473 HH470 tv_53 rfl rfl rfl rfl rfl rfl (by simp [Value.oneCell']) (wt0 rfl) fun w' HH476 => hK475 _ _ (by exact HH476.sel [2, 4, 5, 6, 7] (by decide) rfl) ?_
                            have HS477 := HH476.sel [2, 4, 5, 6, 7] (by decide) rfl
                            refine dr_done (by kernel_rfl) ?_
                            clear HH328 a_331 HE332 a_335 HE336 a_337 HE338 a_339 HE340 a_341 HE342 a_343 HE344 a_345 HE346 a_347 HE348 HH333 a_349 HE350 HS334 K_351 hK352 a_436 HE437 K_439 hK440 a_441 HE442 HH435 HS438 a_445 HE446 K_443 hK444 a_449 HE450 HH447 HS448 K_451 hK452 HH455 HH459 HH460 HH461 HH462 HH463 HH464 HH465 HH466 a_453 HE454 HH467 HS456 a_468 HE469 K_457 hK458 HH470 HS471 hK475 K_474
                            exact nrm ⟨_, _, _, _, _, _, _, HE473.sub ⟨rfl, rfl, rfl, rfl, rfl, rfl, rfl, rfl, rfl, rfl, trivial⟩, HH476.sel [0, 1, 2, 3, 4, 5, 6, 7] (by decide) rfl⟩
                          · refine st_make (E := eInt) (x := (0 : Int)) (k := ((a0.1).toNat)) HE437 HH435 ts_37 tv_2 rfl (fun _ => oI ⟨by omega, by omega⟩) rfl rfl (by omega) (by omega) (by omega) (by omega) (wt0 rfl) rfl fun q102 a_478 w' HE479 HH480 => hK440 _ _ (by exact HH480.sel [3, 6, 7, 8, 9] (by decide) rfl) ?_
                            have hlq102 : (List.replicate ((a0.1).toNat) (0 : Int)).length = (a0.1).toNat := List.length_replicate
                            have HS481 := HH480.sel [3, 6, 7, 8, 9] (by decide) rfl
                            refine dr_take (i := 11) (ls' := #[true, false, true, true, true, true, true, true, true, true, true, true, false, false, false, false]) HE479 HS481 rfl (by kernel_rfl) (by kernel_rfl) (by kernel_rfl) (fun _ _ _ h => h) rfl (wt0 rfl) (show XS _ _ _ _ (.agg #[.int .i64 ((k : Int)), .slice A77 (ex76.length) c78, .slice Ar95_0 (ex76.length) cr95_0, .slice (some ⟨q102, 0, none⟩) ((List.replicate ((a0.1).toNat) (0 : Int)).length) ((a0.1).toNat), .int .i64 (a0.2.2.1)]) from x_build (vs := [(0, .int .i64 ((k : Int))), (1, .slice A77 (ex76.length) c78), (2, .slice Ar95_0 (ex76.length) cr95_0), (3, .slice (some ⟨q102, 0, none⟩) ((List.replicate ((a0.1).toNat) (0 : Int)).length) ((a0.1).toNat)), (4, .int .i64 (a0.2.2.1))]) tb_104 rfl (by simp [Value.oneCell'])) rfl rfl fun a_482 HE483 => ?_
                            refine dr_two (i := 1) (j := 12) (ls' := #[true, true, true, true, true, true, true, true, true, true, true, true, false, false, false, false]) (ls'' := #[true, false, true, true, true, true, true, true, true, true, true, true, true, false, false, false]) rfl rfl (by kernel_rfl) rfl rfl (fun K_484 hK485 => ?_) (fun K_484 hK485 => ?_)
                            · refine st_x HE483 HH480 (wt0 rfl) (x_load1 tv_53 rfl (c_blk 5 rfl rfl)) rfl rfl fun a_486 HE487 => hK485 _ _ HS481 ?_
                              refine dr_one (i := 12) (ls' := #[true, true, true, true, true, true, true, true, true, true, true, true, true, false, false, false]) rfl (by kernel_rfl) rfl fun K_488 hK489 => ?_
                              refine st_lit (m := 1) (cs := [.int .i64 ((k : Int)), .slice A77 (ex76.length) c78, .slice Ar95_0 (ex76.length) cr95_0, .slice (some ⟨q102, 0, none⟩) ((List.replicate ((a0.1).toNat) (0 : Int)).length) ((a0.1).toNat), .int .i64 (a0.2.2.1)]) (e := 104) HE487 HH480 (run_lit ts_53 HE487 (vs := [.agg #[.int .i64 ((k : Int)), .slice A77 (ex76.length) c78, .slice Ar95_0 (ex76.length) cr95_0, .slice (some ⟨q102, 0, none⟩) ((List.replicate ((a0.1).toNat) (0 : Int)).length) ((a0.1).toNat), .int .i64 (a0.2.2.1)]]) rfl rfl (by simp [Value.cells]) rfl (by decide)) (wt0 rfl) rfl rfl fun q103 a_490 w' HE491 HH492 => hK489 _ _ (by exact HH492.sel [4, 7, 8, 9, 10] (by decide) rfl) ?_
                              have HS493 := HH492.sel [4, 7, 8, 9, 10] (by decide) rfl
                              refine dr_one (i := 13) (ls' := #[true, true, true, true, true, true, true, true, true, true, true, true, true, true, false, false]) rfl (by kernel_rfl) rfl fun K_494 hK495 => ?_
                              have HH496 := HH492.sel [3, 2, 1, 0, 4, 5, 6, 7, 8, 9, 10] (by decide) rfl
                              have HH497 := HH496.sel [2, 0, 1, 3, 4, 5, 6, 7, 8, 9, 10] (by decide) rfl
                              have HH498 := HH497.pairB (F := eInt) (c2 := [.int .i64 (a0.2.2.1)]) (y := a0.2.2.1) (oI (by exact ⟨by omega, by omega⟩))
                              have HH499 := HH498.sel [2, 0, 1, 3, 4, 5, 6, 7, 8, 9, 10] (by decide) rfl
                              have HH500 := HH499.pair
                              have HH501 := HH500.sel [1, 0, 2, 3, 4, 5, 6, 7, 8, 9] (by decide) rfl
                              have HH502 := HH501.pair
                              have HH503 := HH502.pairF (E := eInt) (c1 := [.int .i64 ((k : Int))]) (x := (k : Int)) (oI (by exact ⟨by omega, by omega⟩))
                              obtain ⟨S107, HH504⟩ : ∃ S, Held Nob w (rO eMultiRule S [.int .i64 ((k : Int)), .slice A77 (ex76.length) c78, .slice Ar95_0 (ex76.length) cr95_0, .slice (some ⟨q102, 0, none⟩) ((List.replicate ((a0.1).toNat) (0 : Int)).length) ((a0.1).toNat), .int .i64 (a0.2.2.1)] ((k : Int), ex76, ex76, (List.replicate ((a0.1).toNat) (0 : Int)), a0.2.2.1) :: _) _ := ⟨_, HH503⟩
                              refine st_app1 HE491 HH504 ts_53 [3, 0, 1, 2, 4, 5, 6, 7, 8] (by decide) rfl rfl rfl (by simp [Value.oneCell']) (by unfold maxLen; first | omega | (simp; done) | (simp; omega)) (by first | omega | (simp; done) | (simp; omega)) (wt0 rfl) rfl fun A104 c105 S106 a_505 w' HE506 HH507 => hK495 _ _ (by exact HH507.sel [2, 4, 5, 6, 7] (by decide) rfl) ?_
                              have HS508 := HH507.sel [2, 4, 5, 6, 7] (by decide) rfl
                              refine dr_take (i := 14) (ls' := #[true, true, true, true, true, true, true, true, true, true, true, true, true, true, true, false]) HE506 HS508 rfl (by kernel_rfl) (by kernel_rfl) (by kernel_rfl) (fun _ _ _ h => h) rfl (wt0 rfl) (x_fieldAddr fa_55_3 rfl) rfl rfl fun a_509 HE510 => ?_
                              refine dr_one (i := 15) (ls' := #[true, true, true, true, true, true, true, true, true, true, true, true, true, true, true, true]) rfl (by kernel_rfl) rfl fun K_511 hK512 => ?_
                              refine st_store (vs := [.slice A104 (((seqB a0 k ++ ((hReads a0 (k : Int)).take v).map (haltRl a0 (k : Int))) ++ [((k : Int), ex76, ex76, (List.replicate ((a0.1).toNat) (0 : Int)), a0.2.2.1)]).length) c105]) 3 HE510 HH507 tv_53 rfl rfl rfl rfl rfl rfl (by simp [Value.oneCell']) (wt0 rfl) fun w' HH513 => hK512 _ _ (by exact HH513.sel [2, 4, 5, 6, 7] (by decide) rfl) ?_
                              have HS514 := HH513.sel [2, 4, 5, 6, 7] (by decide) rfl
                              refine dr_done (by kernel_rfl) ?_
                              clear HH328 a_331 HE332 a_335 HE336 a_337 HE338 a_339 HE340 a_341 HE342 a_343 HE344 a_345 HE346 a_347 HE348 HH333 a_349 HE350 HS334 K_351 hK352 a_436 HE437 HH435 HS438 a_478 HE479 K_439 hK440 a_482 HE483 K_484 hK485 a_486 HE487 HH480 HS481 K_488 hK489 HH492 HH496 HH497 HH498 HH499 HH500 HH501 HH502 HH503 a_490 HE491 HH504 HS493 a_505 HE506 K_494 hK495 HH507 HS508 hK512 K_511
                              exact nrm ⟨_, _, _, _, _, _, _, HE510.sub ⟨rfl, rfl, rfl, rfl, rfl, rfl, rfl, rfl, rfl, rfl, trivial⟩, HH513.sel [0, 1, 2, 3, 4, 5, 6, 7] (by decide) rfl⟩
                            · refine st_lit (m := 1) (cs := [.int .i64 ((k : Int)), .slice A77 (ex76.length) c78, .slice Ar95_0 (ex76.length) cr95_0, .slice (some ⟨q102, 0, none⟩) ((List.replicate ((a0.1).toNat) (0 : Int)).length) ((a0.1).toNat), .int .i64 (a0.2.2.1)]) (e := 104) HE483 HH480 (run_lit ts_53 HE483 (vs := [.agg #[.int .i64 ((k : Int)), .slice A77 (ex76.length) c78, .slice Ar95_0 (ex76.length) cr95_0, .slice (some ⟨q102, 0, none⟩) ((List.replicate ((a0.1).toNat) (0 : Int)).length) ((a0.1).toNat), .int .i64 (a0.2.2.1)]]) rfl rfl (by simp [Value.cells]) rfl (by decide)) (wt0 rfl) rfl rfl fun q108 a_515 w' HE516 HH517 => hK485 _ _ (by exact HH517.sel [4, 7, 8, 9, 10] (by decide) rfl) ?_
                              have HS518 := HH517.sel [4, 7, 8, 9, 10] (by decide) rfl
                              refine dr_one (i := 1) (ls' := #[true, true, true, true, true, true, true, true, true, true, true, true, true, false, false, false]) rfl (by kernel_rfl) rfl fun K_519 hK520 => ?_
                              refine st_x HE516 HH517 (wt0 rfl) (x_load1 tv_53 rfl (c_blk 6 rfl rfl)) rfl rfl fun a_521 HE522 => hK520 _ _ HS518 ?_
                              refine dr_one (i := 13) (ls' := #[true, true, true, true, true, true, true, true, true, true, true, true, true, true, false, false]) rfl (by kernel_rfl) rfl fun K_523 hK524 => ?_
                              have HH525 := HH517.sel [3, 2, 1, 0, 4, 5, 6, 7, 8, 9, 10] (by decide) rfl
                              have HH526 := HH525.sel [2, 0, 1, 3, 4, 5, 6, 7, 8, 9, 10] (by decide) rfl
                              have HH527 := HH526.pairB (F := eInt) (c2 := [.int .i64 (a0.2.2.1)]) (y := a0.2.2.1) (oI (by exact ⟨by omega, by omega⟩))
                              have HH528 := HH527.sel [2, 0, 1, 3, 4, 5, 6, 7, 8, 9, 10] (by decide) rfl
                              have HH529 := HH528.pair
                              have HH530 := HH529.sel [1, 0, 2, 3, 4, 5, 6, 7, 8, 9] (by decide) rfl
                              have HH531 := HH530.pair
                              have HH532 := HH531.pairF (E := eInt) (c1 := [.int .i64 ((k : Int))]) (x := (k : Int)) (oI (by exact ⟨by omega, by omega⟩))
                              obtain ⟨S112, HH533⟩ : ∃ S, Held Nob w (rO eMultiRule S [.int .i64 ((k : Int)), .slice A77 (ex76.length) c78, .slice Ar95_0 (ex76.length) cr95_0, .slice (some ⟨q102, 0, none⟩) ((List.replicate ((a0.1).toNat) (0 : Int)).length) ((a0.1).toNat), .int .i64 (a0.2.2.1)] ((k : Int), ex76, ex76, (List.replicate ((a0.1).toNat) (0 : Int)), a0.2.2.1) :: _) _ := ⟨_, HH532⟩
                              refine st_app1 HE522 HH533 ts_53 [3, 0, 1, 2, 4, 5, 6, 7, 8] (by decide) rfl rfl rfl (by simp [Value.oneCell']) (by unfold maxLen; first | omega | (simp; done) | (simp; omega)) (by first | omega | (simp; done) | (simp; omega)) (wt0 rfl) rfl fun A109 c110 S111 a_534 w' HE535 HH536 => hK524 _ _ (by exact HH536.sel [2, 4, 5, 6, 7] (by decide) rfl) ?_
                              have HS537 := HH536.sel [2, 4, 5, 6, 7] (by decide) rfl
                              refine dr_take (i := 14) (ls' := #[true, true, true, true, true, true, true, true, true, true, true, true, true, true, true, false]) HE535 HS537 rfl (by kernel_rfl) (by kernel_rfl) (by kernel_rfl) (fun _ _ _ h => h) rfl (wt0 rfl) (x_fieldAddr fa_55_3 rfl) rfl rfl fun a_538 HE539 => ?_
                              refine dr_one (i := 15) (ls' := #[true, true, true, true, true, true, true, true, true, true, true, true, true, true, true, true]) rfl (by kernel_rfl) rfl fun K_540 hK541 => ?_
                              refine st_store (vs := [.slice A109 (((seqB a0 k ++ ((hReads a0 (k : Int)).take v).map (haltRl a0 (k : Int))) ++ [((k : Int), ex76, ex76, (List.replicate ((a0.1).toNat) (0 : Int)), a0.2.2.1)]).length) c110]) 3 HE539 HH536 tv_53 rfl rfl rfl rfl rfl rfl (by simp [Value.oneCell']) (wt0 rfl) fun w' HH542 => hK541 _ _ (by exact HH542.sel [2, 4, 5, 6, 7] (by decide) rfl) ?_
                              have HS543 := HH542.sel [2, 4, 5, 6, 7] (by decide) rfl
                              refine dr_done (by kernel_rfl) ?_
                              clear HH328 a_331 HE332 a_335 HE336 a_337 HE338 a_339 HE340 a_341 HE342 a_343 HE344 a_345 HE346 a_347 HE348 HH333 a_349 HE350 HS334 K_351 hK352 a_436 HE437 HH435 HS438 a_478 HE479 K_439 hK440 a_482 HE483 HH480 HS481 K_484 hK485 a_515 HE516 K_519 hK520 HH517 HH525 HH526 HH527 HH528 HH529 HH530 HH531 HH532 a_521 HE522 HH533 HS518 a_534 HE535 K_523 hK524 HH536 HS537 hK541 K_540
                              exact nrm ⟨_, _, _, _, _, _, _, HE539.sub ⟨rfl, rfl, rfl, rfl, rfl, rfl, rfl, rfl, rfl, rfl, trivial⟩, HH542.sel [0, 1, 2, 3, 4, 5, 6, 7] (by decide) rfl⟩
                        · refine st_make (E := eInt) (x := (0 : Int)) (k := ((a0.1).toNat)) HE350 HH333 ts_37 tv_2 rfl (fun _ => oI ⟨by omega, by omega⟩) rfl rfl (by omega) (by omega) (by omega) (by omega) (wt0 rfl) rfl fun q113 a_544 w' HE545 HH546 => hK352 _ _ (by exact HH546.sel [2, 5, 6, 7, 8] (by decide) rfl) ?_
                          have hlq113 : (List.replicate ((a0.1).toNat) (0 : Int)).length = (a0.1).toNat := List.length_replicate
                          have HS547 := HH546.sel [2, 5, 6, 7, 8] (by decide) rfl
                          refine dr_two (i := 1) (j := 5) (ls' := #[true, true, true, true, true, false, true, true, true, true, true, false, false, false, false, false]) (ls'' := #[true, false, true, true, true, true, true, true, true, true, true, false, false, false, false, false]) rfl rfl (by kernel_rfl) rfl rfl (fun K_548 hK549 => ?_) (fun K_548 hK549 => ?_)
                          · refine st_x HE545 HH546 (wt0 rfl) (x_load1 tv_53 rfl (c_blk 4 rfl rfl)) rfl rfl fun a_550 HE551 => hK549 _ _ HS547 ?_
                            refine dr_one (i := 5) (ls' := #[true, true, true, true, true, true, true, true, true, true, true, false, false, false, false, false]) rfl (by kernel_rfl) rfl fun K_552 hK553 => ?_
                            refine st_call HE551 (wt0 rfl) rfl rfl rfl en_72 rfl rfl (Clone_Int64 _ _ ex76 _ (HH546.sl (i := 1) rfl) (by omega)) fun e w' hr => ?_
                            obtain ⟨Ar114_0, cr114_0, rfl, hor114_0, hbr114⟩ := hr
                            obtain ⟨Sr114, HH554⟩ := HH546.newS hbr114 hor114_0
                            refine ⟨_, rfl, fun a_555 HE556 => hK553 _ _ (by exact HH554.sel [3, 6, 7, 8, 9] (by decide) rfl) ?_⟩
                            have HS557 := HH554.sel [3, 6, 7, 8, 9] (by decide) rfl
                            refine dr_take (i := 11) (ls' := #[true, true, true, true, true, true, true, true, true, true, true, true, false, false, false, false]) HE556 HS557 rfl (by kernel_rfl) (by kernel_rfl) (by kernel_rfl) (fun _ _ _ h => h) rfl (wt0 rfl) (show XS _ _ _ _ (.agg #[.int .i64 ((k : Int)), .slice A77 (ex76.length) c78, .slice Ar114_0 (ex76.length) cr114_0, .slice (some ⟨q113, 0, none⟩) ((List.replicate ((a0.1).toNat) (0 : Int)).length) ((a0.1).toNat), .int .i64 (a0.2.2.1)]) from x_build (vs := [(0, .int .i64 ((k : Int))), (1, .slice A77 (ex76.length) c78), (2, .slice Ar114_0 (ex76.length) cr114_0), (3, .slice (some ⟨q113, 0, none⟩) ((List.replicate ((a0.1).toNat) (0 : Int)).length) ((a0.1).toNat)), (4, .int .i64 (a0.2.2.1))]) tb_104 rfl (by simp [Value.oneCell'])) rfl rfl fun a_558 HE559 => ?_
                            refine dr_one (i := 12) (ls' := #[true, true, true, true, true, true, true, true, true, true, true, true, true, false, false, false]) rfl (by kernel_rfl) rfl fun K_560 hK561 => ?_
                            refine st_lit (m := 1) (cs := [.int .i64 ((k : Int)), .slice A77 (ex76.length) c78, .slice Ar114_0 (ex76.length) cr114_0, .slice (some ⟨q113, 0, none⟩) ((List.replicate ((a0.1).toNat) (0 : Int)).length) ((a0.1).toNat), .int .i64 (a0.2.2.1)]) (e := 104) HE559 HH554 (run_lit ts_53 HE559 (vs := [.agg #[.int .i64 ((k : Int)), .slice A77 (ex76.length) c78, .slice Ar114_0 (ex76.length) cr114_0, .slice (some ⟨q113, 0, none⟩) ((List.replicate ((a0.1).toNat) (0 : Int)).length) ((a0.1).toNat), .int .i64 (a0.2.2.1)]]) rfl rfl (by simp [Value.cells]) rfl (by decide)) (wt0 rfl) rfl rfl fun q115 a_562 w' HE563 HH564 => hK561 _ _ (by exact HH564.sel [4, 7, 8, 9, 10] (by decide) rfl) ?_
                            have HS565 := HH564.sel [4, 7, 8, 9, 10] (by decide) rfl
                            refine dr_one (i := 13) (ls' := #[true, true, true, true, true, true, true, true, true, true, true, true, true, true, false, false]) rfl (by kernel_rfl) rfl fun K_566 hK567 => ?_
                            have HH568 := HH564.sel [3, 1, 2, 0, 4, 5, 6, 7, 8, 9, 10] (by decide) rfl
                            have HH569 := HH568.sel [2, 0, 1, 3, 4, 5, 6, 7, 8, 9, 10] (by decide) rfl
                            have HH570 := HH569.pairB (F := eInt) (c2 := [.int .i64 (a0.2.2.1)]) (y := a0.2.2.1) (oI (by exact ⟨by omega, by omega⟩))
                            have HH571 := HH570.sel [2, 0, 1, 3, 4, 5, 6, 7, 8, 9, 10] (by decide) rfl
                            have HH572 := HH571.pair
                            have HH573 := HH572.sel [1, 0, 2, 3, 4, 5, 6, 7, 8, 9] (by decide) rfl
                            have HH574 := HH573.pair
                            have HH575 := HH574.pairF (E := eInt) (c1 := [.int .i64 ((k : Int))]) (x := (k : Int)) (oI (by exact ⟨by omega, by omega⟩))
                            obtain ⟨S119, HH576⟩ : ∃ S, Held Nob w (rO eMultiRule S [.int .i64 ((k : Int)), .slice A77 (ex76.length) c78, .slice Ar114_0 (ex76.length) cr114_0, .slice (some ⟨q113, 0, none⟩) ((List.replicate ((a0.1).toNat) (0 : Int)).length) ((a0.1).toNat), .int .i64 (a0.2.2.1)] ((k : Int), ex76, ex76, (List.replicate ((a0.1).toNat) (0 : Int)), a0.2.2.1) :: _) _ := ⟨_, HH575⟩
                            refine st_app1 HE563 HH576 ts_53 [3, 0, 1, 2, 4, 5, 6, 7, 8] (by decide) rfl rfl rfl (by simp [Value.oneCell']) (by unfold maxLen; first | omega | (simp; done) | (simp; omega)) (by first | omega | (simp; done) | (simp; omega)) (wt0 rfl) rfl fun A116 c117 S118 a_577 w' HE578 HH579 => hK567 _ _ (by exact HH579.sel [2, 4, 5, 6, 7] (by decide) rfl) ?_
                            have HS580 := HH579.sel [2, 4, 5, 6, 7] (by decide) rfl
                            refine dr_take (i := 14) (ls' := #[true, true, true, true, true, true, true, true, true, true, true, true, true, true, true, false]) HE578 HS580 rfl (by kernel_rfl) (by kernel_rfl) (by kernel_rfl) (fun _ _ _ h => h) rfl (wt0 rfl) (x_fieldAddr fa_55_3 rfl) rfl rfl fun a_581 HE582 => ?_
                            refine dr_one (i := 15) (ls' := #[true, true, true, true, true, true, true, true, true, true, true, true, true, true, true, true]) rfl (by kernel_rfl) rfl fun K_583 hK584 => ?_
                            refine st_store (vs := [.slice A116 (((seqB a0 k ++ ((hReads a0 (k : Int)).take v).map (haltRl a0 (k : Int))) ++ [((k : Int), ex76, ex76, (List.replicate ((a0.1).toNat) (0 : Int)), a0.2.2.1)]).length) c117]) 3 HE582 HH579 tv_53 rfl rfl rfl rfl rfl rfl (by simp [Value.oneCell']) (wt0 rfl) fun w' HH585 => hK584 _ _ (by exact HH585.sel [2, 4, 5, 6, 7] (by decide) rfl) ?_
                            have HS586 := HH585.sel [2, 4, 5, 6, 7] (by decide) rfl
                            refine dr_done (by kernel_rfl) ?_
                            clear HH328 a_331 HE332 a_335 HE336 a_337 HE338 a_339 HE340 a_341 HE342 a_343 HE344 a_345 HE346 a_347 HE348 a_349 HE350 HH333 HS334 K_351 hK352 a_544 HE545 K_548 hK549 HH546 a_550 HE551 HS547 a_555 HE556 K_552 hK553 a_558 HE559 HH554 HS557 K_560 hK561 HH564 HH568 HH569 HH570 HH571 HH572 HH573 HH574 HH575 a_562 HE563 HH576 HS565 a_577 HE578 K_566 hK567 HH579 HS580 hK584 K_583
                            exact nrm ⟨_, _, _, _, _, _, _, HE582.sub ⟨rfl, rfl, rfl, rfl, rfl, rfl, rfl, rfl, rfl, rfl, trivial⟩, HH585.sel [0, 1, 2, 3, 4, 5, 6, 7] (by decide) rfl⟩
                          · refine st_call HE545 (wt0 rfl) rfl rfl rfl en_72 rfl rfl (Clone_Int64 _ _ ex76 _ (HH546.sl (i := 1) rfl) (by omega)) fun e w' hr => ?_
                            obtain ⟨Ar120_0, cr120_0, rfl, hor120_0, hbr120⟩ := hr
                            obtain ⟨Sr120, HH587⟩ := HH546.newS hbr120 hor120_0
                            refine ⟨_, rfl, fun a_588 HE589 => hK549 _ _ (by exact HH587.sel [3, 6, 7, 8, 9] (by decide) rfl) ?_⟩
                            have HS590 := HH587.sel [3, 6, 7, 8, 9] (by decide) rfl
                            refine dr_take (i := 11) (ls' := #[true, false, true, true, true, true, true, true, true, true, true, true, false, false, false, false]) HE589 HS590 rfl (by kernel_rfl) (by kernel_rfl) (by kernel_rfl) (fun _ _ _ h => h) rfl (wt0 rfl) (show XS _ _ _ _ (.agg #[.int .i64 ((k : Int)), .slice A77 (ex76.length) c78, .slice Ar120_0 (ex76.length) cr120_0, .slice (some ⟨q113, 0, none⟩) ((List.replicate ((a0.1).toNat) (0 : Int)).length) ((a0.1).toNat), .int .i64 (a0.2.2.1)]) from x_build (vs := [(0, .int .i64 ((k : Int))), (1, .slice A77 (ex76.length) c78), (2, .slice Ar120_0 (ex76.length) cr120_0), (3, .slice (some ⟨q113, 0, none⟩) ((List.replicate ((a0.1).toNat) (0 : Int)).length) ((a0.1).toNat)), (4, .int .i64 (a0.2.2.1))]) tb_104 rfl (by simp [Value.oneCell'])) rfl rfl fun a_591 HE592 => ?_
                            refine dr_two (i := 1) (j := 12) (ls' := #[true, true, true, true, true, true, true, true, true, true, true, true, false, false, false, false]) (ls'' := #[true, false, true, true, true, true, true, true, true, true, true, true, true, false, false, false]) rfl rfl (by kernel_rfl) rfl rfl (fun K_593 hK594 => ?_) (fun K_593 hK594 => ?_)
                            · refine st_x HE592 HH587 (wt0 rfl) (x_load1 tv_53 rfl (c_blk 5 rfl rfl)) rfl rfl fun a_595 HE596 => hK594 _ _ HS590 ?_
                              refine dr_one (i := 12) (ls' := #[true, true, true, true, true, true, true, true, true, true, true, true, true, false, false, false]) rfl (by kernel_rfl) rfl fun K_597 hK598 => ?_
                              refine st_lit (m := 1) (cs := [.int .i64 ((k : Int)), .slice A77 (ex76.length) c78, .slice Ar120_0 (ex76.length) cr120_0, .slice (some ⟨q113, 0, none⟩) ((List.replicate ((a0.1).toNat) (0 : Int)).length) ((a0.1).toNat), .int .i64 (a0.2.2.1)]) (e := 104) HE596 HH587 (run_lit ts_53 HE596 (vs := [.agg #[.int .i64 ((k : Int)), .slice A77 (ex76.length) c78, .slice Ar120_0 (ex76.length) cr120_0, .slice (some ⟨q113, 0, none⟩) ((List.replicate ((a0.1).toNat) (0 : Int)).length) ((a0.1).toNat), .int .i64 (a0.2.2.1)]]) rfl rfl (by simp [Value.cells]) rfl (by decide)) (wt0 rfl) rfl rfl fun q121 a_599 w' HE600 HH601 => hK598 _ _ (by exact HH601.sel [4, 7, 8, 9, 10] (by decide) rfl) ?_
                              have HS602 := HH601.sel [4, 7, 8, 9, 10] (by decide) rfl
                              refine dr_one (i := 13) (ls' := #[true, true, true, true, true, true, true, true, true, true, true, true, true, true, false, false]) rfl (by kernel_rfl) rfl fun K_603 hK604 => ?_
                              have HH605 := HH601.sel [3, 1, 2, 0, 4, 5, 6, 7, 8, 9, 10] (by decide) rfl
                              have HH606 := HH605.sel [2, 0, 1, 3, 4, 5, 6, 7, 8, 9, 10] (by decide) rfl
                              have HH607 := HH606.pairB (F := eInt) (c2 := [.int .i64 (a0.2.2.1)]) (y := a0.2.2.1) (oI (by exact ⟨by omega, by omega⟩))
                              have HH608 := HH607.sel [2, 0, 1, 3, 4, 5, 6, 7, 8, 9, 10] (by decide) rfl
                              have HH609 := HH608.pair
                              have HH610 := HH609.sel [1, 0, 2, 3, 4, 5, 6, 7, 8, 9] (by decide) rfl
                              have HH611 := HH610.pair
                              have HH612 := HH611.pairF (E := eInt) (c1 := [.int .i64 ((k : Int))]) (x := (k : Int)) (oI (by exact ⟨by omega, by omega⟩))
                              obtain ⟨S125, HH613⟩ : ∃ S, Held Nob w (rO eMultiRule S [.int .i64 ((k : Int)), .slice A77 (ex76.length) c78, .slice Ar120_0 (ex76.length) cr120_0, .slice (some ⟨q113, 0, none⟩) ((List.replicate ((a0.1).toNat) (0 : Int)).length) ((a0.1).toNat), .int .i64 (a0.2.2.1)] ((k : Int), ex76, ex76, (List.replicate ((a0.1).toNat) (0 : Int)), a0.2.2.1) :: _) _ := ⟨_, HH612⟩
                              refine st_app1 HE600 HH613 ts_53 [3, 0, 1, 2, 4, 5, 6, 7, 8] (by decide) rfl rfl rfl (by simp [Value.oneCell']) (by unfold maxLen; first | omega | (simp; done) | (simp; omega)) (by first | omega | (simp; done) | (simp; omega)) (wt0 rfl) rfl fun A122 c123 S124 a_614 w' HE615 HH616 => hK604 _ _ (by exact HH616.sel [2, 4, 5, 6, 7] (by decide) rfl) ?_
                              have HS617 := HH616.sel [2, 4, 5, 6, 7] (by decide) rfl
                              refine dr_take (i := 14) (ls' := #[true, true, true, true, true, true, true, true, true, true, true, true, true, true, true, false]) HE615 HS617 rfl (by kernel_rfl) (by kernel_rfl) (by kernel_rfl) (fun _ _ _ h => h) rfl (wt0 rfl) (x_fieldAddr fa_55_3 rfl) rfl rfl fun a_618 HE619 => ?_
                              refine dr_one (i := 15) (ls' := #[true, true, true, true, true, true, true, true, true, true, true, true, true, true, true, true]) rfl (by kernel_rfl) rfl fun K_620 hK621 => ?_
                              refine st_store (vs := [.slice A122 (((seqB a0 k ++ ((hReads a0 (k : Int)).take v).map (haltRl a0 (k : Int))) ++ [((k : Int), ex76, ex76, (List.replicate ((a0.1).toNat) (0 : Int)), a0.2.2.1)]).length) c123]) 3 HE619 HH616 tv_53 rfl rfl rfl rfl rfl rfl (by simp [Value.oneCell']) (wt0 rfl) fun w' HH622 => hK621 _ _ (by exact HH622.sel [2, 4, 5, 6, 7] (by decide) rfl) ?_
                              have HS623 := HH622.sel [2, 4, 5, 6, 7] (by decide) rfl
                              refine dr_done (by kernel_rfl) ?_
                              clear HH328 a_331 HE332 a_335 HE336 a_337 HE338 a_339 HE340 a_341 HE342 a_343 HE344 a_345 HE346 a_347 HE348 a_349 HE350 HH333 HS334 K_351 hK352 HH546 a_544 HE545 HS547 a_588 HE589 K_548 hK549 a_591 HE592 K_593 hK594 a_595 HE596 HH587 HS590 K_597 hK598 HH601 HH605 HH606 HH607 HH608 HH609 HH610 HH611 HH612 a_599 HE600 HH613 HS602 a_614 HE615 K_603 hK604 HH616 HS617 hK621 K_620
                              exact nrm ⟨_, _, _, _, _, _, _, HE619.sub ⟨rfl, rfl, rfl, rfl, rfl, rfl, rfl, rfl, rfl, rfl, trivial⟩, HH622.sel [0, 1, 2, 3, 4, 5, 6, 7] (by decide) rfl⟩
                            · refine st_lit (m := 1) (cs := [.int .i64 ((k : Int)), .slice A77 (ex76.length) c78, .slice Ar120_0 (ex76.length) cr120_0, .slice (some ⟨q113, 0, none⟩) ((List.replicate ((a0.1).toNat) (0 : Int)).length) ((a0.1).toNat), .int .i64 (a0.2.2.1)]) (e := 104) HE592 HH587 (run_lit ts_53 HE592 (vs := [.agg #[.int .i64 ((k : Int)), .slice A77 (ex76.length) c78, .slice Ar120_0 (ex76.length) cr120_0, .slice (some ⟨q113, 0, none⟩) ((List.replicate ((a0.1).toNat) (0 : Int)).length) ((a0.1).toNat), .int .i64 (a0.2.2.1)]]) rfl rfl (by simp [Value.cells]) rfl (by decide)) (wt0 rfl) rfl rfl fun q126 a_624 w' HE625 HH626 => hK594 _ _ (by exact HH626.sel [4, 7, 8, 9, 10] (by decide) rfl) ?_
                              have HS627 := HH626.sel [4, 7, 8, 9, 10] (by decide) rfl
                              refine dr_one (i := 1) (ls' := #[true, true, true, true, true, true, true, true, true, true, true, true, true, false, false, false]) rfl (by kernel_rfl) rfl fun K_628 hK629 => ?_
                              refine st_x HE625 HH626 (wt0 rfl) (x_load1 tv_53 rfl (c_blk 6 rfl rfl)) rfl rfl fun a_630 HE631 => hK629 _ _ HS627 ?_
                              refine dr_one (i := 13) (ls' := #[true, true, true, true, true, true, true, true, true, true, true, true, true, true, false, false]) rfl (by kernel_rfl) rfl fun K_632 hK633 => ?_
                              have HH634 := HH626.sel [3, 1, 2, 0, 4, 5, 6, 7, 8, 9, 10] (by decide) rfl
                              have HH635 := HH634.sel [2, 0, 1, 3, 4, 5, 6, 7, 8, 9, 10] (by decide) rfl
                              have HH636 := HH635.pairB (F := eInt) (c2 := [.int .i64 (a0.2.2.1)]) (y := a0.2.2.1) (oI (by exact ⟨by omega, by omega⟩))
                              have HH637 := HH636.sel [2, 0, 1, 3, 4, 5, 6, 7, 8, 9, 10] (by decide) rfl
                              have HH638 := HH637.pair
                              have HH639 := HH638.sel [1, 0, 2, 3, 4, 5, 6, 7, 8, 9] (by decide) rfl
                              have HH640 := HH639.pair
                              have HH641 := HH640.pairF (E := eInt) (c1 := [.int .i64 ((k : Int))]) (x := (k : Int)) (oI (by exact ⟨by omega, by omega⟩))
                              obtain ⟨S130, HH642⟩ : ∃ S, Held Nob w (rO eMultiRule S [.int .i64 ((k : Int)), .slice A77 (ex76.length) c78, .slice Ar120_0 (ex76.length) cr120_0, .slice (some ⟨q113, 0, none⟩) ((List.replicate ((a0.1).toNat) (0 : Int)).length) ((a0.1).toNat), .int .i64 (a0.2.2.1)] ((k : Int), ex76, ex76, (List.replicate ((a0.1).toNat) (0 : Int)), a0.2.2.1) :: _) _ := ⟨_, HH641⟩
                              refine st_app1 HE631 HH642 ts_53 [3, 0, 1, 2, 4, 5, 6, 7, 8] (by decide) rfl rfl rfl (by simp [Value.oneCell']) (by unfold maxLen; first | omega | (simp; done) | (simp; omega)) (by first | omega | (simp; done) | (simp; omega)) (wt0 rfl) rfl fun A127 c128 S129 a_643 w' HE644 HH645 => hK633 _ _ (by exact HH645.sel [2, 4, 5, 6, 7] (by decide) rfl) ?_
                              have HS646 := HH645.sel [2, 4, 5, 6, 7] (by decide) rfl
                              refine dr_take (i := 14) (ls' := #[true, true, true, true, true, true, true, true, true, true, true, true, true, true, true, false]) HE644 HS646 rfl (by kernel_rfl) (by kernel_rfl) (by kernel_rfl) (fun _ _ _ h => h) rfl (wt0 rfl) (x_fieldAddr fa_55_3 rfl) rfl rfl fun a_647 HE648 => ?_
                              refine dr_one (i := 15) (ls' := #[true, true, true, true, true, true, true, true, true, true, true, true, true, true, true, true]) rfl (by kernel_rfl) rfl fun K_649 hK650 => ?_
                              refine st_store (vs := [.slice A127 (((seqB a0 k ++ ((hReads a0 (k : Int)).take v).map (haltRl a0 (k : Int))) ++ [((k : Int), ex76, ex76, (List.replicate ((a0.1).toNat) (0 : Int)), a0.2.2.1)]).length) c128]) 3 HE648 HH645 tv_53 rfl rfl rfl rfl rfl rfl (by simp [Value.oneCell']) (wt0 rfl) fun w' HH651 => hK650 _ _ (by exact HH651.sel [2, 4, 5, 6, 7] (by decide) rfl) ?_
                              have HS652 := HH651.sel [2, 4, 5, 6, 7] (by decide) rfl
                              refine dr_done (by kernel_rfl) ?_
                              clear HH328 a_331 HE332 a_335 HE336 a_337 HE338 a_339 HE340 a_341 HE342 a_343 HE344 a_345 HE346 a_347 HE348 a_349 HE350 HH333 HS334 K_351 hK352 HH546 a_544 HE545 HS547 a_588 HE589 K_548 hK549 a_591 HE592 HH587 HS590 K_593 hK594 a_624 HE625 K_628 hK629 HH626 HH634 HH635 HH636 HH637 HH638 HH639 HH640 HH641 a_630 HE631 HH642 HS627 a_643 HE644 K_632 hK633 HH645 HS646 hK650 K_649
                              exact nrm ⟨_, _, _, _, _, _, _, HE648.sub ⟨rfl, rfl, rfl, rfl, rfl, rfl, rfl, rfl, rfl, rfl, trivial⟩, HH651.sel [0, 1, 2, 3, 4, 5, 6, 7] (by decide) rfl⟩
                      · rintro a_653 w' ⟨S86, A84, c85, q83, Ar81_0, cr81_0, q82, HE654, HH655⟩
                        refine blk_n ?_
                        refine nrm ?_
                        refine rg ?_
                        refine pl_x HE654 HH655 (wt0 rfl) (x_add rfl rfl (by exact ⟨by omega, by omega⟩)) rfl rfl fun a_656 HE657 => ?_
                        refine pl_x HE657 HH655 (wt0 rfl) (x_move rfl) rfl rfl fun a_658 HE659 => ?_
                        refine wpList_nil ?_
                        clear a_331 HE332 HH328 a_653 HE654 a_656 HE657
                        have E131 : (seqB a0 k ++ ((hReads a0 (k : Int)).take (v + 1)).map (haltRl a0 (k : Int))) = ((seqB a0 k ++ ((hReads a0 (k : Int)).take v).map (haltRl a0 (k : Int))) ++ [((k : Int), ex76, ex76, (List.replicate ((a0.1).toNat) (0 : Int)), a0.2.2.1)]) := by
                          rw [take_snocI hzx, List.map_append, ← List.append_assoc]; rfl
                        exact nrm ⟨(hReads a0 (k : Int)).length - (v + 1), (by omega), v + 1, A84, c85, S86, S80, rfl, HE659.sub ⟨(lkI rfl (by first | rfl | omega | (simp [hc25, hc27, hc28, hc29, p32_0, hc33, p67_0, hc68, p72_0, hc73, xex76]; done))), rfl, rfl, rfl, rfl, rfl, rfl, rfl, rfl, rfl, trivial⟩, ((HH655.sel [0, 2, 3, 4, 5, 6, 7] (by decide) rfl).to (by first | rfl | (rw [E131]; done) | (rw [E131]; rfl) | (simp only [E131]; done) | (simp only [E131]; rfl) | (rw [E131]; simp only [List.length_set]; done))), (by first | omega | assumption | (simp; done) | simp_all)⟩
                    · refine wp_exit ?_
                      refine (thn_exit (thn_exit (blk_hit ?_)))
                      refine blk_n ?_
                      refine nrm ?_
                      refine rg ?_
                      refine pl_x HE322 HH320 (wt0 rfl) (x_add rfl rfl (by exact ⟨by omega, by omega⟩)) rfl rfl fun a_660 HE661 => ?_
                      refine pl_x HE661 HH320 (wt0 rfl) (x_move rfl) rfl rfl fun a_662 HE663 => ?_
                      refine wpList_nil ?_
                      clear a_321 HE322 a_660 HE661
                      have E132 : (seqB a0 (k + 1)) = (seqB a0 k ++ ((hReads a0 (k : Int)).take v).map (haltRl a0 (k : Int))) := by
                        rw [seqB_succ, List.take_of_length_le (by omega)]
                      exact nrm ⟨a0.2.2.1.toNat - (k + 1), (by omega), k + 1, A_6_3, c_6_3, S_6_3, rfl, HE663.sub ⟨(lkI rfl (by first | rfl | omega | (simp [hc25, hc27, hc28, hc29, p32_0, hc33, p67_0, hc68, p72_0, hc73]; done))), rfl, rfl, rfl, rfl, rfl, trivial⟩, ((HH320.sel [0, 2, 4, 5, 6] (by decide) rfl).to (by first | rfl | (rw [E132]; done) | (rw [E132]; rfl) | (simp only [E132]; done) | (simp only [E132]; rfl) | (rw [E132]; simp only [List.length_set]; done))), (by first | omega | assumption | (simp; done) | simp_all)⟩
                · refine wp_exit ?_
                  refine (thn_exit (thn_exit (blk_hit ?_)))
                  refine nrm ?_
                  refine wp_seq ?_
                  refine wp_seq ?_
                  refine rg ?_
                  refine pl_x HE297 HH295 (wt0 rfl) (x_fieldAddr fa_55_3 rfl) rfl rfl fun a_664 HE665 => ?_
                  refine pl_x HE665 HH295 (wt0 rfl) (x_load1 tv_53 rfl (c_blk 3 rfl rfl)) rfl rfl fun a_666 HE667 => ?_
                  refine pl_x HE667 HH295 (wt0 rfl) (x_len Try.underlying53 rfl) rfl rfl fun a_668 HE669 => ?_
                  refine pl_x HE669 HH295 (wt0 rfl) (x_move rfl) rfl rfl fun a_670 HE671 => ?_
                  refine wpList_nil ?_
                  clear a_296 HE297 a_664 HE665 a_666 HE667 a_668 HE669
                  refine nrm ?_
                  refine wp_block ?_
                  refine lp (fun m a w' => ∃ (j : Nat) (A_6_3 : Option Addr) (c_6_3 : Nat) (S_6_3 : Nat → Prop), m = a1.2.2.2.length - j ∧ Env 126 [(95, .int .i64 (j : Int)), (2, .pointer (some ⟨q21, 0, none⟩)), (4, .pointer (some ⟨q23, 0, none⟩)), (6, .pointer (some ⟨q30, 0, none⟩)), (93, .slice Az1_3 (a1.2.2.2.length) cz1_3), (94, .int .i64 ((a1.2.2.2.length : Int)))] a ∧ Held Nob w [rVec eMultiRule 104 S_6_3 A_6_3 c_6_3 (seqB a0 a0.2.2.1.toNat ++ (a1.2.2.2.take j).map (moveRl a0.2.2.1)), rBlk q30 55 [.int .i64 a0.1, .int .i64 a0.2.1, .int .i64 (a0.2.2.1 + a1.2.2.1), .slice A_6_3 (List.length (seqB a0 a0.2.2.1.toNat ++ (a1.2.2.2.take j).map (moveRl a0.2.2.1))) c_6_3], rBlk q23 55 [.int .i64 (0), .int .i64 (0), .int .i64 (0), .slice none (0) 0], rBlk q22 55 [.int .i64 (a1.1), .int .i64 (a1.2.1), .int .i64 (a1.2.2.1), .slice Az1_3 (a1.2.2.2.length) cz1_3], rBlk q21 55 [.int .i64 (a0.1), .int .i64 (a0.2.1), .int .i64 (a0.2.2.1), .slice Az0_3 (a0.2.2.2.length) cz0_3]] w' ∧ (j ≤ a1.2.2.2.length)) (a1.2.2.2.length - (0)) ?_ ?_
                  · have E133 : (seqB a0 a0.2.2.1.toNat ++ (a1.2.2.2.take 0).map (moveRl a0.2.2.1)) = (seqB a0 k) := by
                      rw [show k = a0.2.2.1.toNat from by omega]; simp
                    exact ⟨0, A_6_3, c_6_3, S_6_3, rfl, HE671.sub ⟨(lkI rfl (by first | rfl | omega | (simp [hc25, hc27, hc28, hc29, p32_0, hc33, p67_0, hc68]; done))), rfl, rfl, rfl, rfl, rfl, trivial⟩, ((HH295.sel [0, 1, 2, 3, 4] (by decide) rfl).to (by first | rfl | (rw [E133]; done) | (rw [E133]; rfl) | (simp only [E133]; done) | (simp only [E133]; rfl) | (rw [E133]; simp only [List.length_set]; done))), (by first | omega | assumption | (simp; done) | simp_all)⟩
                  · rintro m a_672 w' ⟨j, A_6_3, c_6_3, S_6_3, rfl, HE673, HH674, p134_0⟩
                    have hb1 := seqB_len hva a0.2.2.1.toNat
                    have ol : (seqB a0 a0.2.2.1.toNat ++ (a1.2.2.2.take j).map (moveRl a0.2.2.1)).length = (seqB a0 a0.2.2.1.toNat).length + j := by rw [List.length_append, List.length_map, List.length_take]; omega
                    refine wp_seq ?_
                    refine rg ?_
                    refine pl_x HE673 HH674 (wt0 rfl) (x_lss rfl rfl) rfl rfl fun a_675 HE676 => ?_
                    refine wpList_nil ?_
                    clear a_670 HE671 HH295 a_672 HE673
                    refine nrm ?_
                    refine wp_seq ?_
                    refine cnd_d HE676 rfl (fun hc135 => ?_) (fun hc135 => ?_)
                    · refine wp_skip ?_
                      refine nrm ?_
                      refine wp_seq ?_
                      refine wp_block ?_
                      refine wp_seq ?_
                      refine rg ?_
                      have ke136 : j < a1.2.2.2.length := by omega
                      obtain ⟨be136, fe136, ese136, Ae136, Re136, De136⟩ := el_old gz1_3 ke136
                      obtain ⟨e136, xe136⟩ : ∃ x_, x_ = a1.2.2.2[j] := ⟨_, rfl⟩
                      rw [← xe136] at Re136
                      have Qe136 := Re136
                      obtain ⟨Ae136_1, ce136_1, Ae136_2, ce136_2, Ae136_3, ce136_3, rfl, ge136_0, ge136_1, ge136_2, ge136_3, ge136_4⟩ := shape_MultiRule Re136
                      have je136_0 := ge136_0; unfold I64 at je136_0
                      have le136_1 := ge136_1.len
                      have le136_2 := ge136_2.len
                      have le136_3 := ge136_3.len
                      have je136_4 := ge136_4; unfold I64 at je136_4
                      have hre136 := hrb e136 (by rw [xe136]; exact List.getElem_mem _)
                      refine pl_x HE676 HH674 (wt0 rfl) (x_indexAddr ts_53 rfl rfl Ae136 rfl ke136) rfl rfl fun a_677 HE678 => ?_
                      refine pl_x HE678 HH674 (wt0 rfl) (x_loadN (cs := [.int .i64 (e136.1), .slice Ae136_1 (e136.2.1.length) ce136_1, .slice Ae136_2 (e136.2.2.1.length) ce136_2, .slice Ae136_3 (e136.2.2.2.1.length) ce136_3, .int .i64 (e136.2.2.2.2)]) tv_104 rfl rfl (c_oldN De136)) rfl rfl fun a_679 HE680 => ?_
                      refine pl fun K_681 hK682 => ?_
                      refine st_alloc HE680 HH674 tv_104 (wt0 rfl) rfl fun q137 a_683 w' HE684 HH685 => hK682 _ _ ?_
                      refine pl fun K_686 hK687 => ?_
                      refine st_store (vs := [.int .i64 (e136.1), .slice Ae136_1 (e136.2.1.length) ce136_1, .slice Ae136_2 (e136.2.2.1.length) ce136_2, .slice Ae136_3 (e136.2.2.2.1.length) ce136_3, .int .i64 (e136.2.2.2.2)]) 0 HE684 HH685 tv_104 rfl rfl rfl rfl rfl rfl (by simp [Value.oneCell']) (wt0 rfl) fun w' HH688 => hK687 _ _ ?_
                      refine wpList_nil ?_
                      clear a_675 HE676 a_677 HE678 a_679 HE680 HH674 K_681 hK682 HH685 hK687 K_686
                      refine nrm ?_
                      refine wp_seq ?_
                      refine rg ?_
                      refine pl_x HE684 HH688 (wt0 rfl) (x_loadN (cs := [.int .i64 (e136.1), .slice Ae136_1 (e136.2.1.length) ce136_1, .slice Ae136_2 (e136.2.2.1.length) ce136_2, .slice Ae136_3 (e136.2.2.2.1.length) ce136_3, .int .i64 (e136.2.2.2.2)]) tv_104 rfl rfl (c_blkN 0 rfl)) rfl rfl fun a_689 HE690 => ?_
                      refine pl fun K_691 hK692 => ?_
                      refine st_call HE690 (wt0 rfl) rfl rfl rfl en_71 rfl rfl (impl_copyMultiRule [.int .i64 (e136.1), .slice Ae136_1 (e136.2.1.length) ce136_1, .slice Ae136_2 (e136.2.2.1.length) ce136_2, .slice Ae136_3 (e136.2.2.2.1.length) ce136_3, .int .i64 (e136.2.2.2.2)] e136 _ (HH688.oldR Qe136) (by omega)) fun e w' hr => ?_
                      obtain ⟨esr138_0, rfl, hor138_0, hbr138⟩ := hr
                      have hr := eMultiRule.read hor138_0
                      obtain ⟨Sr138, HH693⟩ := HH688.newO hbr138 hor138_0
                      obtain ⟨Ar138_0_1, cr138_0_1, Ar138_0_2, cr138_0_2, Ar138_0_3, cr138_0_3, rfl, gr138_0_0, gr138_0_1, gr138_0_2, gr138_0_3, gr138_0_4⟩ := shape_MultiRule hr
                      have jr138_0_0 := gr138_0_0; unfold I64 at jr138_0_0
                      have jr138_0_4 := gr138_0_4; unfold I64 at jr138_0_4
                      have HH694 := HH693.unF rfl
                      obtain ⟨S139, S140, HH695⟩ := HH694.unP rfl
                      have HH696 := HH695.sel [1, 0, 2, 3, 4, 5, 6, 7] (by decide) rfl
                      obtain ⟨S141, S142, HH697⟩ := HH696.unP rfl
                      have HH698 := HH697.sel [1, 0, 2, 3, 4, 5, 6, 7, 8] (by decide) rfl
                      obtain ⟨S143, S144, HH699⟩ := HH698.unP rfl
                      have HH700 := HH699.sel [1, 0, 2, 3, 4, 5, 6, 7, 8, 9] (by decide) rfl
                      have HH701 := HH700.sel [1, 2, 3, 4, 5, 6, 7, 8, 9] (by decide) rfl
                      refine ⟨_, rfl, fun a_702 HE703 => hK692 _ _ ?_⟩
                      refine pl fun K_704 hK705 => ?_
                      refine st_alloc HE703 HH701 tv_104 (wt0 rfl) rfl fun q145 a_706 w' HE707 HH708 => hK705 _ _ ?_
                      refine pl fun K_709 hK710 => ?_
                      refine st_store (vs := [.int .i64 (e136.1), .slice Ar138_0_1 (e136.2.1.length) cr138_0_1, .slice Ar138_0_2 (e136.2.2.1.length) cr138_0_2, .slice Ar138_0_3 (e136.2.2.2.1.length) cr138_0_3, .int .i64 (e136.2.2.2.2)]) 0 HE707 HH708 tv_104 rfl rfl rfl rfl rfl rfl (by simp [Value.oneCell']) (wt0 rfl) fun w' HH711 => hK710 _ _ ?_
                      refine wpList_nil ?_
                      clear a_683 HE684 HH688 HH693 HH694 HH695 HH696 HH697 HH698 HH699 HH700 a_689 HE690 K_691 hK692 a_702 HE703 HH701 K_704 hK705 HH708 hK710 K_709
                      refine nrm ?_
                      refine wp_seq ?_
                      refine rg ?_
                      refine pl_x HE707 HH711 (wt0 rfl) (x_fieldAddr fa_104_0 rfl) rfl rfl fun a_712 HE713 => ?_
                      refine pl_x HE713 HH711 (wt0 rfl) (x_load1 tv_2 rfl (c_blk 0 rfl rfl)) rfl rfl fun a_714 HE715 => ?_
                      refine pl_x HE715 HH711 (wt0 rfl) (x_fieldAddr fa_55_2 rfl) rfl rfl fun a_716 HE717 => ?_
                      refine pl_x HE717 HH711 (wt0 rfl) (x_load1 tv_2 rfl (c_blk 9 rfl rfl)) rfl rfl fun a_718 HE719 => ?_
                      refine pl_x HE719 HH711 (wt0 rfl) (x_add rfl rfl (by exact ⟨by omega, by omega⟩)) rfl rfl fun a_720 HE721 => ?_
                      refine pl_x HE721 HH711 (wt0 rfl) (x_fieldAddr fa_104_0 rfl) rfl rfl fun a_722 HE723 => ?_
                      refine pl fun K_724 hK725 => ?_
                      refine st_store (vs := [.int .i64 ((e136.1 + a0.2.2.1))]) 0 HE723 HH711 tv_2 rfl rfl rfl rfl rfl rfl (by simp [Value.oneCell']) (wt0 rfl) fun w' HH726 => hK725 _ _ ?_
                      refine wpList_nil ?_
                      clear a_706 HE707 a_712 HE713 a_714 HE715 a_716 HE717 a_718 HE719 a_720 HE721 HH711 hK725 K_724
                      refine nrm ?_
                      refine wp_seq ?_
                      refine rg ?_
                      refine pl_x HE723 HH726 (wt0 rfl) (x_fieldAddr fa_104_4 rfl) rfl rfl fun a_727 HE728 => ?_
                      refine pl_x HE728 HH726 (wt0 rfl) (x_load1 tv_2 rfl (c_blk 0 rfl rfl)) rfl rfl fun a_729 HE730 => ?_
                      refine pl_x HE730 HH726 (wt0 rfl) (x_fieldAddr fa_55_2 rfl) rfl rfl fun a_731 HE732 => ?_
                      refine pl_x HE732 HH726 (wt0 rfl) (x_load1 tv_2 rfl (c_blk 9 rfl rfl)) rfl rfl fun a_733 HE734 => ?_
                      refine pl_x HE734 HH726 (wt0 rfl) (x_add rfl rfl (by exact ⟨by omega, by omega⟩)) rfl rfl fun a_735 HE736 => ?_
                      refine pl_x HE736 HH726 (wt0 rfl) (x_fieldAddr fa_104_4 rfl) rfl rfl fun a_737 HE738 => ?_
                      refine pl fun K_739 hK740 => ?_
                      refine st_store (vs := [.int .i64 ((e136.2.2.2.2 + a0.2.2.1))]) 0 HE738 HH726 tv_2 rfl rfl rfl rfl rfl rfl (by simp [Value.oneCell']) (wt0 rfl) fun w' HH741 => hK740 _ _ ?_
                      refine wpList_nil ?_
                      clear a_722 HE723 a_727 HE728 a_729 HE730 a_731 HE732 a_733 HE734 a_735 HE736 HH726 hK740 K_739
                      refine nrm ?_
                      refine rg ?_
                      refine pl_x HE738 HH741 (wt0 rfl) (x_fieldAddr fa_55_3 rfl) rfl rfl fun a_742 HE743 => ?_
                      refine pl_x HE743 HH741 (wt0 rfl) (x_load1 tv_53 rfl (c_blk 6 rfl rfl)) rfl rfl fun a_744 HE745 => ?_
                      refine pl_x HE745 HH741 (wt0 rfl) (x_loadN (cs := [.int .i64 ((e136.1 + a0.2.2.1)), .slice Ar138_0_1 (e136.2.1.length) cr138_0_1, .slice Ar138_0_2 (e136.2.2.1.length) cr138_0_2, .slice Ar138_0_3 (e136.2.2.2.1.length) cr138_0_3, .int .i64 ((e136.2.2.2.2 + a0.2.2.1))]) tv_104 rfl rfl (c_blkN 0 rfl)) rfl rfl fun a_746 HE747 => ?_
                      refine pl fun K_748 hK749 => ?_
                      refine st_lit (m := 1) (cs := [.int .i64 ((e136.1 + a0.2.2.1)), .slice Ar138_0_1 (e136.2.1.length) cr138_0_1, .slice Ar138_0_2 (e136.2.2.1.length) cr138_0_2, .slice Ar138_0_3 (e136.2.2.2.1.length) cr138_0_3, .int .i64 ((e136.2.2.2.2 + a0.2.2.1))]) (e := 104) HE747 HH741 (run_lit ts_53 HE747 (vs := [.agg #[.int .i64 ((e136.1 + a0.2.2.1)), .slice Ar138_0_1 (e136.2.1.length) cr138_0_1, .slice Ar138_0_2 (e136.2.2.1.length) cr138_0_2, .slice Ar138_0_3 (e136.2.2.2.1.length) cr138_0_3, .int .i64 ((e136.2.2.2.2 + a0.2.2.1))]]) rfl rfl (by simp [Value.cells]) rfl (by decide)) (wt0 rfl) rfl rfl fun q146 a_750 w' HE751 HH752 => hK749 _ _ ?_
                      refine pl fun K_753 hK754 => ?_
                      have HH755 := HH752.sel [4, 3, 2, 0, 1, 5, 6, 7, 8, 9, 10] (by decide) rfl
                      have HH756 := HH755.sel [2, 0, 1, 3, 4, 5, 6, 7, 8, 9, 10] (by decide) rfl
                      have HH757 := HH756.pairB (F := eInt) (c2 := [.int .i64 ((e136.2.2.2.2 + a0.2.2.1))]) (y := (e136.2.2.2.2 + a0.2.2.1)) (oI (by exact ⟨by omega, by omega⟩))
                      have HH758 := HH757.sel [2, 0, 1, 3, 4, 5, 6, 7, 8, 9, 10] (by decide) rfl
                      have HH759 := HH758.pair
                      have HH760 := HH759.sel [1, 0, 2, 3, 4, 5, 6, 7, 8, 9] (by decide) rfl
                      have HH761 := HH760.pair
                      have HH762 := HH761.pairF (E := eInt) (c1 := [.int .i64 ((e136.1 + a0.2.2.1))]) (x := (e136.1 + a0.2.2.1)) (oI (by exact ⟨by omega, by omega⟩))
                      obtain ⟨S150, HH763⟩ : ∃ S, Held Nob w (rO eMultiRule S [.int .i64 ((e136.1 + a0.2.2.1)), .slice Ar138_0_1 (e136.2.1.length) cr138_0_1, .slice Ar138_0_2 (e136.2.2.1.length) cr138_0_2, .slice Ar138_0_3 (e136.2.2.2.1.length) cr138_0_3, .int .i64 ((e136.2.2.2.2 + a0.2.2.1))] ((e136.1 + a0.2.2.1), e136.2.1, e136.2.2.1, e136.2.2.2.1, (e136.2.2.2.2 + a0.2.2.1)) :: _) _ := ⟨_, HH762⟩
                      refine st_app1 HE751 HH763 ts_53 [4, 0, 1, 2, 3, 5, 6, 7, 8] (by decide) rfl rfl rfl (by simp [Value.oneCell']) (by unfold maxLen; first | omega | (simp; done) | (simp; omega)) (by first | omega | (simp; done) | (simp; omega)) (wt0 rfl) rfl fun A147 c148 S149 a_764 w' HE765 HH766 => hK754 _ _ ?_
                      refine pl_x HE765 HH766 (wt0 rfl) (x_fieldAddr fa_55_3 rfl) rfl rfl fun a_767 HE768 => ?_
                      refine pl fun K_769 hK770 => ?_
                      refine st_store (vs := [.slice A147 (((seqB a0 a0.2.2.1.toNat ++ (a1.2.2.2.take j).map (moveRl a0.2.2.1)) ++ [((e136.1 + a0.2.2.1), e136.2.1, e136.2.2.1, e136.2.2.2.1, (e136.2.2.2.2 + a0.2.2.1))]).length) c148]) 4 HE768 HH766 tv_53 rfl rfl rfl rfl rfl rfl (by simp [Value.oneCell']) (wt0 rfl) fun w' HH771 => hK770 _ _ ?_
                      refine wpList_nil ?_
                      clear a_737 HE738 a_742 HE743 a_744 HE745 a_746 HE747 HH741 K_748 hK749 HH752 HH755 HH756 HH757 HH758 HH759 HH760 HH761 HH762 a_750 HE751 HH763 a_764 HE765 K_753 hK754 HH766 hK770 K_769
                      refine blk_n ?_
                      refine nrm ?_
                      refine rg ?_
                      refine pl_x HE768 HH771 (wt0 rfl) (x_add rfl rfl (by exact ⟨by omega, by omega⟩)) rfl rfl fun a_772 HE773 => ?_
                      refine pl_x HE773 HH771 (wt0 rfl) (x_move rfl) rfl rfl fun a_774 HE775 => ?_
                      refine wpList_nil ?_
                      clear a_767 HE768 a_772 HE773
                      have E151 : (seqB a0 a0.2.2.1.toNat ++ (a1.2.2.2.take (j + 1)).map (moveRl a0.2.2.1)) = ((seqB a0 a0.2.2.1.toNat ++ (a1.2.2.2.take j).map (moveRl a0.2.2.1)) ++ [((e136.1 + a0.2.2.1), e136.2.1, e136.2.2.1, e136.2.2.2.1, (e136.2.2.2.2 + a0.2.2.1))]) := by
                        rw [List.take_succ_eq_append_getElem (by omega), List.map_append, ← List.append_assoc, ← xe136]; rfl
                      exact nrm ⟨a1.2.2.2.length - (j + 1), (by omega), j + 1, A147, c148, S149, rfl, HE775.sub ⟨(lkI rfl (by first | rfl | omega | (simp [hc25, hc27, hc28, hc29, p32_0, hc33, p67_0, hc68, p134_0, hc135, xe136]; done))), rfl, rfl, rfl, rfl, rfl, trivial⟩, ((HH771.sel [0, 4, 5, 6, 7] (by decide) rfl).to (by first | rfl | (rw [E151]; done) | (rw [E151]; rfl) | (simp only [E151]; done) | (simp only [E151]; rfl) | (rw [E151]; simp only [List.length_set]; done))), (by first | omega | assumption | (simp; done) | simp_all)⟩
                    · refine wp_exit ?_
                      refine (thn_exit (thn_exit (blk_hit ?_)))
                      refine nrm ?_
                      refine wp_seq ?_
                      refine rg ?_
                      refine pl fun K_776 hK777 => ?_
                      have HH778 := HH674.vecSo
                      have HH779 := HH778.pairF (E := eInt) (c1 := [.int .i64 ((a0.2.2.1 + a1.2.2.1))]) (x := (a0.2.2.1 + a1.2.2.1)) (oI (by exact ⟨by omega, by omega⟩))
                      have HH780 := HH779.pairF (E := eInt) (c1 := [.int .i64 (a0.2.1)]) (x := a0.2.1) (oI (by exact ⟨by omega, by omega⟩))
                      have HH781 := HH780.pairF (E := eInt) (c1 := [.int .i64 (a0.1)]) (x := a0.1) (oI (by exact ⟨by omega, by omega⟩))
                      obtain ⟨S152, HH782⟩ : ∃ S, Held Nob w (rO eMulti S [.int .i64 (a0.1), .int .i64 (a0.2.1), .int .i64 ((a0.2.2.1 + a1.2.2.1)), .slice A_6_3 ((List.length (seqB a0 a0.2.2.1.toNat ++ (a1.2.2.2.take j).map (moveRl a0.2.2.1)))) c_6_3] (a0.1, a0.2.1, (a0.2.2.1 + a1.2.2.1), (seqB a0 a0.2.2.1.toNat ++ (a1.2.2.2.take j).map (moveRl a0.2.2.1))) :: _) _ := ⟨_, HH781⟩
                      have HH783 := HH782.sel [1, 0, 2, 3, 4] (by decide) rfl
                      have HH784 : Held Nob w ([rBlk q30 55 [.int .i64 (a0.1), .int .i64 (a0.2.1), .int .i64 ((a0.2.2.1 + a1.2.2.1)), .slice A_6_3 ((List.length (seqB a0 a0.2.2.1.toNat ++ (a1.2.2.2.take j).map (moveRl a0.2.2.1)))) c_6_3], rO eMulti S152 [.int .i64 (a0.1), .int .i64 (a0.2.1), .int .i64 ((a0.2.2.1 + a1.2.2.1)), .slice A_6_3 ((List.length (seqB a0 a0.2.2.1.toNat ++ (a1.2.2.2.take j).map (moveRl a0.2.2.1)))) c_6_3] (a0.1, a0.2.1, (a0.2.2.1 + a1.2.2.1), (seqB a0 a0.2.2.1.toNat ++ (a1.2.2.2.take j).map (moveRl a0.2.2.1)))] ++ [rBlk q23 55 [.int .i64 (0), .int .i64 (0), .int .i64 (0), .slice none (0) 0], rBlk q22 55 [.int .i64 (a1.1), .int .i64 (a1.2.1), .int .i64 (a1.2.2.1), .slice Az1_3 (a1.2.2.2.length) cz1_3], rBlk q21 55 [.int .i64 (a0.1), .int .i64 (a0.2.1), .int .i64 (a0.2.2.1), .slice Az0_3 (a0.2.2.2.length) cz0_3]]) _ := HH783
                      refine st_call HE676 (wt0 rfl) rfl rfl rfl en_73 rfl rfl (impl_sortRules (Foot [rBlk q30 55 [.int .i64 (a0.1), .int .i64 (a0.2.1), .int .i64 ((a0.2.2.1 + a1.2.2.1)), .slice A_6_3 ((List.length (seqB a0 a0.2.2.1.toNat ++ (a1.2.2.2.take j).map (moveRl a0.2.2.1)))) c_6_3], rO eMulti S152 [.int .i64 (a0.1), .int .i64 (a0.2.1), .int .i64 ((a0.2.2.1 + a1.2.2.1)), .slice A_6_3 ((List.length (seqB a0 a0.2.2.1.toNat ++ (a1.2.2.2.take j).map (moveRl a0.2.2.1)))) c_6_3] (a0.1, a0.2.1, (a0.2.2.1 + a1.2.2.1), (seqB a0 a0.2.2.1.toNat ++ (a1.2.2.2.take j).map (moveRl a0.2.2.1)))]) _ _ (a0.1, a0.2.1, (a0.2.2.1 + a1.2.2.1), (seqB a0 a0.2.2.1.toNat ++ (a1.2.2.2.take j).map (moveRl a0.2.2.1))) _ _ HH784.focus (by first | omega | (simp only [palI_len]; omega)) (by first | exact (show apartMR (palI a0 k) from palI_apart (by omega)) | exact (show apartMR ((a0.2.2.2.take k).map (permMR a1)) from by rw [List.take_of_length_le (by omega)]; exact perm_apart hvm hwo) | exact (show apartMR (seqB a0 a0.2.2.1.toNat ++ (a1.2.2.2.take j).map (moveRl a0.2.2.1)) from by rw [List.take_of_length_le (by omega)]; exact seqR_apart hva hvb))) fun e w' hr => ?_
                      obtain ⟨esr153_0, Sr153_0, rfl, hbr153⟩ := hr
                      have HH785 := HH784.back hbr153
                      clear hbr153
                      have Rr153 := HH785.rd (i := 1) rfl
                      obtain ⟨Ar153_0_3, cr153_0_3, rfl, gr153_0_0, gr153_0_1, gr153_0_2, gr153_0_3⟩ := shape_Multi Rr153
                      clear Rr153
                      have jr153_0_0 := gr153_0_0; unfold I64 at jr153_0_0
                      have jr153_0_1 := gr153_0_1; unfold I64 at jr153_0_1
                      have jr153_0_2 := gr153_0_2; unfold I64 at jr153_0_2
                      have HH786 : Held Nob w ([rBlk q30 55 [.int .i64 ((sortMulti (a0.1, a0.2.1, (a0.2.2.1 + a1.2.2.1), (seqB a0 a0.2.2.1.toNat ++ (a1.2.2.2.take j).map (moveRl a0.2.2.1)))).1), .int .i64 ((sortMulti (a0.1, a0.2.1, (a0.2.2.1 + a1.2.2.1), (seqB a0 a0.2.2.1.toNat ++ (a1.2.2.2.take j).map (moveRl a0.2.2.1)))).2.1), .int .i64 ((sortMulti (a0.1, a0.2.1, (a0.2.2.1 + a1.2.2.1), (seqB a0 a0.2.2.1.toNat ++ (a1.2.2.2.take j).map (moveRl a0.2.2.1)))).2.2.1), .slice Ar153_0_3 ((sortMulti (a0.1, a0.2.1, (a0.2.2.1 + a1.2.2.1), (seqB a0 a0.2.2.1.toNat ++ (a1.2.2.2.take j).map (moveRl a0.2.2.1)))).2.2.2.length) cr153_0_3], rO eMulti Sr153_0 [.int .i64 ((sortMulti (a0.1, a0.2.1, (a0.2.2.1 + a1.2.2.1), (seqB a0 a0.2.2.1.toNat ++ (a1.2.2.2.take j).map (moveRl a0.2.2.1)))).1), .int .i64 ((sortMulti (a0.1, a0.2.1, (a0.2.2.1 + a1.2.2.1), (seqB a0 a0.2.2.1.toNat ++ (a1.2.2.2.take j).map (moveRl a0.2.2.1)))).2.1), .int .i64 ((sortMulti (a0.1, a0.2.1, (a0.2.2.1 + a1.2.2.1), (seqB a0 a0.2.2.1.toNat ++ (a1.2.2.2.take j).map (moveRl a0.2.2.1)))).2.2.1), .slice Ar153_0_3 ((sortMulti (a0.1, a0.2.1, (a0.2.2.1 + a1.2.2.1), (seqB a0 a0.2.2.1.toNat ++ (a1.2.2.2.take j).map (moveRl a0.2.2.1)))).2.2.2.length) cr153_0_3] (sortMulti (a0.1, a0.2.1, (a0.2.2.1 + a1.2.2.1), (seqB a0 a0.2.2.1.toNat ++ (a1.2.2.2.take j).map (moveRl a0.2.2.1))))] ++ [rBlk q23 55 [.int .i64 (0), .int .i64 (0), .int .i64 (0), .slice none (0) 0], rBlk q22 55 [.int .i64 (a1.1), .int .i64 (a1.2.1), .int .i64 (a1.2.2.1), .slice Az1_3 (a1.2.2.2.length) cz1_3], rBlk q21 55 [.int .i64 (a0.1), .int .i64 (a0.2.1), .int .i64 (a0.2.2.1), .slice Az0_3 (a0.2.2.2.length) cz0_3]]) _ := HH785
                      have HH787 := HH786.sel [1, 0, 2, 3, 4] (by decide) rfl
                      have HH788 := HH787.unF rfl
                      have HH789 := HH788.unF rfl
                      have HH790 := HH789.unF rfl
                      refine ⟨_, rfl, fun a_791 HE792 => hK777 _ _ ?_⟩
                      refine wpList_nil ?_
                      clear HH674 HH778 HH779 HH780 HH781 HH782 HH783 HH784 HH785 HH786 HH787 HH788 HH789 a_675 HE676 hK777 K_776
                      refine nrm ?_
                      refine wp_seq ?_
                      refine wp_seq ?_
                      refine rg ?_
                      refine pl_x HE792 HH790 (wt0 rfl) (x_loadN (cs := [.int .i64 ((sortMulti (a0.1, a0.2.1, (a0.2.2.1 + a1.2.2.1), (seqB a0 a0.2.2.1.toNat ++ (a1.2.2.2.take j).map (moveRl a0.2.2.1)))).1), .int .i64 ((sortMulti (a0.1, a0.2.1, (a0.2.2.1 + a1.2.2.1), (seqB a0 a0.2.2.1.toNat ++ (a1.2.2.2.take j).map (moveRl a0.2.2.1)))).2.1), .int .i64 ((sortMulti (a0.1, a0.2.1, (a0.2.2.1 + a1.2.2.1), (seqB a0 a0.2.2.1.toNat ++ (a1.2.2.2.take j).map (moveRl a0.2.2.1)))).2.2.1), .slice Ar153_0_3 ((sortMulti (a0.1, a0.2.1, (a0.2.2.1 + a1.2.2.1), (seqB a0 a0.2.2.1.toNat ++ (a1.2.2.2.take j).map (moveRl a0.2.2.1)))).2.2.2.length) cr153_0_3]) tv_55 rfl rfl (c_blkN 1 rfl)) rfl rfl fun a_793 HE794 => ?_
                      refine pl fun K_795 hK796 => ?_
                      refine st_call HE794 (wt0 rfl) rfl rfl rfl en_64 rfl rfl (impl_ValidMulti [.int .i64 ((sortMulti (a0.1, a0.2.1, (a0.2.2.1 + a1.2.2.1), (seqB a0 a0.2.2.1.toNat ++ (a1.2.2.2.take j).map (moveRl a0.2.2.1)))).1), .int .i64 ((sortMulti (a0.1, a0.2.1, (a0.2.2.1 + a1.2.2.1), (seqB a0 a0.2.2.1.toNat ++ (a1.2.2.2.take j).map (moveRl a0.2.2.1)))).2.1), .int .i64 ((sortMulti (a0.1, a0.2.1, (a0.2.2.1 + a1.2.2.1), (seqB a0 a0.2.2.1.toNat ++ (a1.2.2.2.take j).map (moveRl a0.2.2.1)))).2.2.1), .slice Ar153_0_3 ((sortMulti (a0.1, a0.2.1, (a0.2.2.1 + a1.2.2.1), (seqB a0 a0.2.2.1.toNat ++ (a1.2.2.2.take j).map (moveRl a0.2.2.1)))).2.2.2.length) cr153_0_3] (sortMulti (a0.1, a0.2.1, (a0.2.2.1 + a1.2.2.1), (seqB a0 a0.2.2.1.toNat ++ (a1.2.2.2.take j).map (moveRl a0.2.2.1)))) _ (rep_Multi (x := (sortMulti (a0.1, a0.2.1, (a0.2.2.1 + a1.2.2.1), (seqB a0 a0.2.2.1.toNat ++ (a1.2.2.2.take j).map (moveRl a0.2.2.1))))) (by first | exact ⟨by omega, by omega⟩ | (dsimp only; exact ⟨by omega, by omega⟩)) (by first | exact ⟨by omega, by omega⟩ | (dsimp only; exact ⟨by omega, by omega⟩)) (by first | exact ⟨by omega, by omega⟩ | (dsimp only; exact ⟨by omega, by omega⟩)) (HH790.sl (i := 0) rfl))) fun e w' hr => ?_
                      obtain ⟨rfl, hbr154⟩ := hr
                      have HH797 := HH790.on hbr154
                      refine ⟨_, rfl, fun a_798 HE799 => hK796 _ _ ?_⟩
                      refine pl_x HE799 HH797 (wt0 rfl) (x_not rfl) rfl rfl fun a_800 HE801 => ?_
                      refine wpList_nil ?_
                      clear a_791 HE792 HH790 a_793 HE794 a_798 HE799 hK796 K_795
                      refine nrm ?_
                      refine cnd_nb HE801 rfl (fun hc155 => ?_) (fun hc155 => ?_)
                      · refine wp_seq ?_
                        refine rg ?_
                        refine pl_x HE801 HH797 (wt0 rfl) (show XS _ _ _ _ (.agg #[.int .i64 (0), .int .i64 (0), .int .i64 (0), .slice none (0) 0]) from x_build (vs := []) tb_55 rfl (by simp [Value.oneCell'])) rfl rfl fun a_802 HE803 => ?_
                        refine pl fun K_804 hK805 => ?_
                        refine st_store (vs := [.int .i64 (0), .int .i64 (0), .int .i64 (0), .slice none (0) 0]) 2 HE803 HH797 tv_55 rfl rfl rfl rfl rfl rfl (by simp [Value.oneCell']) (wt0 rfl) fun w' HH806 => hK805 _ _ ?_
                        refine pl_x HE803 HH806 (wt0 rfl) (x_assign rfl) rfl rfl fun a_807 HE808 => ?_
                        refine wpList_nil ?_
                        clear a_800 HE801 HH797 a_802 HE803 hK805 K_804
                        refine nrm ?_
                        refine wp_ret ?_
                        refine (thn_ret ?_)
                        refine ret2 HE808 rfl (rv_cell rfl (tv_55.loadN (cs := [.int .i64 (0), .int .i64 (0), .int .i64 (0), .slice none (0) 0]) rfl (c_blkN 2 rfl _ HH806))) (rv_tmp rfl) ?_
                        have HH809 := HH806.flatO (E := eMulti) (cs := [.int .i64 (0), .int .i64 (0), .int .i64 (0), .slice none (0) 0]) (x := (0, 0, 0, [])) (fun _ => (oPrN (oI (by exact ⟨by omega, by omega⟩)) (oPrN (oI (by exact ⟨by omega, by omega⟩)) (oPrN (oI (by exact ⟨by omega, by omega⟩)) (oSl (So.nil (Nat.zero_le _)))))))
                        have hF : (seqMulti a0 a1) = ((0, 0, 0, []), 5) := by
                          first | (have hmq : sortMulti (a0.1, a0.2.1, (a0.2.2.1 + a1.2.2.1), (seqB a0 a0.2.2.1.toNat ++ (a1.2.2.2.take j).map (moveRl a0.2.2.1))) = seqM a0 a1 := (by rw [List.take_of_length_le (by omega)]; rfl); have hcc := hc155; rw [hmq] at hcc; unfold seqMulti; rw [if_pos ⟨hva, hvb⟩, if_pos ⟨by omega, by omega⟩]; first | (rw [if_pos hcc, hmq]; done) | (rw [if_pos hcc, hmq]; rfl) | (rw [if_neg (by rw [hcc]; exact Bool.false_ne_true)]; done)) | (simp [seqMulti, hc25, hc27, hc28, hc29, p32_0, hc33, p67_0, hc68, p134_0, hc135, hc155]; done) | (unfold seqMulti; rw [if_neg (by grind)]; done) | (unfold seqMulti; rw [if_pos ⟨hva, hvb⟩, if_neg (by grind)]; done)
                        exact ⟨_, by first | (rw [hF] <;> rfl) | rfl | (rw [hF]; simp only [Ending.returned.injEq, Value.slice.injEq, true_and, and_true]; first | omega | (simp; done)) | (rw [hF]; simp; omega), by rw [hF]; exact (HH809.o (i := 0) rfl), HH809.below⟩
                      · refine wp_skip ?_
                        refine nrm ?_
                        refine wp_seq ?_
                        refine rg ?_
                        refine pl_x HE801 HH797 (wt0 rfl) (x_loadN (cs := [.int .i64 ((sortMulti (a0.1, a0.2.1, (a0.2.2.1 + a1.2.2.1), (seqB a0 a0.2.2.1.toNat ++ (a1.2.2.2.take j).map (moveRl a0.2.2.1)))).1), .int .i64 ((sortMulti (a0.1, a0.2.1, (a0.2.2.1 + a1.2.2.1), (seqB a0 a0.2.2.1.toNat ++ (a1.2.2.2.take j).map (moveRl a0.2.2.1)))).2.1), .int .i64 ((sortMulti (a0.1, a0.2.1, (a0.2.2.1 + a1.2.2.1), (seqB a0 a0.2.2.1.toNat ++ (a1.2.2.2.take j).map (moveRl a0.2.2.1)))).2.2.1), .slice Ar153_0_3 ((sortMulti (a0.1, a0.2.1, (a0.2.2.1 + a1.2.2.1), (seqB a0 a0.2.2.1.toNat ++ (a1.2.2.2.take j).map (moveRl a0.2.2.1)))).2.2.2.length) cr153_0_3]) tv_55 rfl rfl (c_blkN 1 rfl)) rfl rfl fun a_810 HE811 => ?_
                        refine pl fun K_812 hK813 => ?_
                        refine st_store (vs := [.int .i64 ((sortMulti (a0.1, a0.2.1, (a0.2.2.1 + a1.2.2.1), (seqB a0 a0.2.2.1.toNat ++ (a1.2.2.2.take j).map (moveRl a0.2.2.1)))).1), .int .i64 ((sortMulti (a0.1, a0.2.1, (a0.2.2.1 + a1.2.2.1), (seqB a0 a0.2.2.1.toNat ++ (a1.2.2.2.take j).map (moveRl a0.2.2.1)))).2.1), .int .i64 ((sortMulti (a0.1, a0.2.1, (a0.2.2.1 + a1.2.2.1), (seqB a0 a0.2.2.1.toNat ++ (a1.2.2.2.take j).map (moveRl a0.2.2.1)))).2.2.1), .slice Ar153_0_3 ((sortMulti (a0.1, a0.2.1, (a0.2.2.1 + a1.2.2.1), (seqB a0 a0.2.2.1.toNat ++ (a1.2.2.2.take j).map (moveRl a0.2.2.1)))).2.2.2.length) cr153_0_3]) 2 HE811 HH797 tv_55 rfl rfl rfl rfl rfl rfl (by simp [Value.oneCell']) (wt0 rfl) fun w' HH814 => hK813 _ _ ?_
                        refine pl_x HE811 HH814 (wt0 rfl) (x_assign rfl) rfl rfl fun a_815 HE816 => ?_
                        refine wpList_nil ?_
                        clear a_800 HE801 HH797 a_810 HE811 hK813 K_812
                        refine nrm ?_
                        refine wp_ret ?_
                        refine ret2 HE816 rfl (rv_cell rfl (tv_55.loadN (cs := [.int .i64 ((sortMulti (a0.1, a0.2.1, (a0.2.2.1 + a1.2.2.1), (seqB a0 a0.2.2.1.toNat ++ (a1.2.2.2.take j).map (moveRl a0.2.2.1)))).1), .int .i64 ((sortMulti (a0.1, a0.2.1, (a0.2.2.1 + a1.2.2.1), (seqB a0 a0.2.2.1.toNat ++ (a1.2.2.2.take j).map (moveRl a0.2.2.1)))).2.1), .int .i64 ((sortMulti (a0.1, a0.2.1, (a0.2.2.1 + a1.2.2.1), (seqB a0 a0.2.2.1.toNat ++ (a1.2.2.2.take j).map (moveRl a0.2.2.1)))).2.2.1), .slice Ar153_0_3 ((sortMulti (a0.1, a0.2.1, (a0.2.2.1 + a1.2.2.1), (seqB a0 a0.2.2.1.toNat ++ (a1.2.2.2.take j).map (moveRl a0.2.2.1)))).2.2.2.length) cr153_0_3]) rfl (c_blkN 2 rfl _ HH814))) (rv_tmp rfl) ?_
                        have HH817 := HH814.pairF (E := eInt) (c1 := [.int .i64 ((sortMulti (a0.1, a0.2.1, (a0.2.2.1 + a1.2.2.1), (seqB a0 a0.2.2.1.toNat ++ (a1.2.2.2.take j).map (moveRl a0.2.2.1)))).2.2.1)]) (x := (sortMulti (a0.1, a0.2.1, (a0.2.2.1 + a1.2.2.1), (seqB a0 a0.2.2.1.toNat ++ (a1.2.2.2.take j).map (moveRl a0.2.2.1)))).2.2.1) (oI (by exact ⟨by omega, by omega⟩))
                        have HH818 := HH817.pairF (E := eInt) (c1 := [.int .i64 ((sortMulti (a0.1, a0.2.1, (a0.2.2.1 + a1.2.2.1), (seqB a0 a0.2.2.1.toNat ++ (a1.2.2.2.take j).map (moveRl a0.2.2.1)))).2.1)]) (x := (sortMulti (a0.1, a0.2.1, (a0.2.2.1 + a1.2.2.1), (seqB a0 a0.2.2.1.toNat ++ (a1.2.2.2.take j).map (moveRl a0.2.2.1)))).2.1) (oI (by exact ⟨by omega, by omega⟩))
                        have HH819 := HH818.pairF (E := eInt) (c1 := [.int .i64 ((sortMulti (a0.1, a0.2.1, (a0.2.2.1 + a1.2.2.1), (seqB a0 a0.2.2.1.toNat ++ (a1.2.2.2.take j).map (moveRl a0.2.2.1)))).1)]) (x := (sortMulti (a0.1, a0.2.1, (a0.2.2.1 + a1.2.2.1), (seqB a0 a0.2.2.1.toNat ++ (a1.2.2.2.take j).map (moveRl a0.2.2.1)))).1) (oI (by exact ⟨by omega, by omega⟩))
                        obtain ⟨S156, HH820⟩ : ∃ S, Held Nob w (rO eMulti S [.int .i64 ((sortMulti (a0.1, a0.2.1, (a0.2.2.1 + a1.2.2.1), (seqB a0 a0.2.2.1.toNat ++ (a1.2.2.2.take j).map (moveRl a0.2.2.1)))).1), .int .i64 ((sortMulti (a0.1, a0.2.1, (a0.2.2.1 + a1.2.2.1), (seqB a0 a0.2.2.1.toNat ++ (a1.2.2.2.take j).map (moveRl a0.2.2.1)))).2.1), .int .i64 ((sortMulti (a0.1, a0.2.1, (a0.2.2.1 + a1.2.2.1), (seqB a0 a0.2.2.1.toNat ++ (a1.2.2.2.take j).map (moveRl a0.2.2.1)))).2.2.1), .slice Ar153_0_3 ((sortMulti (a0.1, a0.2.1, (a0.2.2.1 + a1.2.2.1), (seqB a0 a0.2.2.1.toNat ++ (a1.2.2.2.take j).map (moveRl a0.2.2.1)))).2.2.2.length) cr153_0_3] (sortMulti (a0.1, a0.2.1, (a0.2.2.1 + a1.2.2.1), (seqB a0 a0.2.2.1.toNat ++ (a1.2.2.2.take j).map (moveRl a0.2.2.1)))) :: _) _ := ⟨_, HH819⟩
                        have hF : (seqMulti a0 a1) = ((sortMulti (a0.1, a0.2.1, (a0.2.2.1 + a1.2.2.1), (seqB a0 a0.2.2.1.toNat ++ (a1.2.2.2.take j).map (moveRl a0.2.2.1)))), 0) := by
                          first | (have hmq : sortMulti (a0.1, a0.2.1, (a0.2.2.1 + a1.2.2.1), (seqB a0 a0.2.2.1.toNat ++ (a1.2.2.2.take j).map (moveRl a0.2.2.1))) = seqM a0 a1 := (by rw [List.take_of_length_le (by omega)]; rfl); have hcc := hc155; rw [hmq] at hcc; unfold seqMulti; rw [if_pos ⟨hva, hvb⟩, if_pos ⟨by omega, by omega⟩]; first | (rw [if_pos hcc, hmq]; done) | (rw [if_pos hcc, hmq]; rfl) | (rw [if_neg (by rw [hcc]; exact Bool.false_ne_true)]; done)) | (simp [seqMulti, hc25, hc27, hc28, hc29, p32_0, hc33, p67_0, hc68, p134_0, hc135, hc155]; done) | (unfold seqMulti; rw [if_neg (by grind)]; done) | (unfold seqMulti; rw [if_pos ⟨hva, hvb⟩, if_neg (by grind)]; done)
                        exact ⟨_, by first | (rw [hF] <;> rfl) | rfl | (rw [hF]; simp only [Ending.returned.injEq, Value.slice.injEq, true_and, and_true]; first | omega | (simp; done)) | (rw [hF]; simp; omega), by rw [hF]; exact (HH820.o (i := 0) rfl), HH820.below⟩
  · refine pl_no HE31 (wtF HE31 rfl rfl rfl (not_t hc25)) rfl rfl fun a_821 HE822 => ?_
    refine pl_no HE822 (wtF HE822 rfl rfl rfl (not_t hc25)) rfl rfl fun a_823 HE824 => ?_
    refine pl_no HE824 (wtF HE824 rfl rfl rfl (not_t hc25)) rfl rfl fun a_825 HE826 => ?_
    refine pl_x HE826 HH25 (wt0 rfl) (x_pickT rfl (not_t hc25) rfl) rfl rfl fun a_827 HE828 => ?_
    refine wpList_nil ?_
    clear a_19 HE20 HH18 a_21 HE22 a_26 HE27 a_28 HE29 a_30 HE31 a_821 HE822 a_823 HE824 a_825 HE826 hK24 K_23
    refine nrm ?_
    refine cndT HE828 rfl rfl ?_
    refine wp_seq ?_
    refine rg ?_
    refine pl_x HE828 HH25 (wt0 rfl) (show XS _ _ _ _ (.agg #[.int .i64 (0), .int .i64 (0), .int .i64 (0), .slice none (0) 0]) from x_build (vs := []) tb_55 rfl (by simp [Value.oneCell'])) rfl rfl fun a_829 HE830 => ?_
    refine pl fun K_831 hK832 => ?_
    refine st_store (vs := [.int .i64 (0), .int .i64 (0), .int .i64 (0), .slice none (0) 0]) 0 HE830 HH25 tv_55 rfl rfl rfl rfl rfl rfl (by simp [Value.oneCell']) (wt0 rfl) fun w' HH833 => hK832 _ _ ?_
    refine pl_x HE830 HH833 (wt0 rfl) (x_assign rfl) rfl rfl fun a_834 HE835 => ?_
    refine wpList_nil ?_
    clear a_827 HE828 HH25 a_829 HE830 hK832 K_831
    refine nrm ?_
    refine wp_ret ?_
    refine (thn_ret ?_)
    refine ret2 HE835 rfl (rv_cell rfl (tv_55.loadN (cs := [.int .i64 (0), .int .i64 (0), .int .i64 (0), .slice none (0) 0]) rfl (c_blkN 0 rfl _ HH833))) (rv_tmp rfl) ?_
    have HH836 := HH833.flatO (E := eMulti) (cs := [.int .i64 (0), .int .i64 (0), .int .i64 (0), .slice none (0) 0]) (x := (0, 0, 0, [])) (fun _ => (oPrN (oI (by exact ⟨by omega, by omega⟩)) (oPrN (oI (by exact ⟨by omega, by omega⟩)) (oPrN (oI (by exact ⟨by omega, by omega⟩)) (oSl (So.nil (Nat.zero_le _)))))))
    have hF : (seqMulti a0 a1) = ((0, 0, 0, []), 1) := by
      first | (have hmq : sortMulti (a0.1, a0.2.1, (a0.2.2.1 + a1.2.2.1), (seqB a0 a0.2.2.1.toNat ++ (a1.2.2.2.take j).map (moveRl a0.2.2.1))) = seqM a0 a1 := (by rw [List.take_of_length_le (by omega)]; rfl); have hcc := hc25; rw [hmq] at hcc; unfold seqMulti; rw [if_pos ⟨hva, hvb⟩, if_pos ⟨by omega, by omega⟩]; first | (rw [if_pos hcc, hmq]; done) | (rw [if_pos hcc, hmq]; rfl) | (rw [if_neg (by rw [hcc]; exact Bool.false_ne_true)]; done)) | (simp [seqMulti, hc25]; done) | (unfold seqMulti; rw [if_neg (by grind)]; done) | (unfold seqMulti; rw [if_pos ⟨hva, hvb⟩, if_neg (by grind)]; done)
    exact ⟨_, by first | (rw [hF] <;> rfl) | rfl | (rw [hF]; simp only [Ending.returned.injEq, Value.slice.injEq, true_and, and_true]; first | omega | (simp; done)) | (rw [hF]; simp; omega), by rw [hF]; exact (HH836.o (i := 0) rfl), HH836.below⟩

end Go.Proofs.Ythfihlfjphiihaa
