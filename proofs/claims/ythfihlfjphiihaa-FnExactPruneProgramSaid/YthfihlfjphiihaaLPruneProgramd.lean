/- What the proof of FnExactPruneProgram needs: contracts of the functions that it reaches, each once. -/
import Derived.Test.YthfihlfjphiihaaProg
import Derived.Test.YthfihlfjphiihaaQMem
import Derived.Test.YthfihlfjphiihaaQOpen
import Derived.Test.YthfihlfjphiihaaLPrunePrograma
import Derived.Test.YthfihlfjphiihaaLPruneProgramb
import Derived.Test.YthfihlfjphiihaaLPruneProgramc
import Derived.WalkKit
import Derived.WalkSpells
import Derived.Below
import Derived.LoopTactic
import Derived.Outline
import Derived.Deep.QuietTactic
import Derived.BigQuiet
import Derived.Deep.LoopGhost
import Derived.Handy
import Derived.Lib.Hide
import Derived.Shelf.Abstract
import Derived.StillTailTactics
import Derived.OwnWalk
import Derived.Maps.AppendAt
import Derived.RegionTactic
import Derived.Deep.RegionHeld3
import Derived.IntWalk
import Derived.Deep.Upon
import Derived.Laws.OwnMore
import Derived.Maps.AppendAt
import Derived.Laws.Small
import Derived.Lib.FrozenHead
import Derived.Lib.RuneBytes
import Derived.Lib.LaidTab
import Derived.Laws.StructEq
import Derived.Lib.SliceRun
import Derived.Lib.AppendZeros
import Derived.Shelf.SortG.Plain
import Derived.Shelf.SortG.SortNone
import Derived.Shelf.SlicesG.CompactI
import Derived.Shelf.SlicesG.SearchI
import Derived.Sort.OwnSortedInts
import Derived.Lib.RowBridge
import Derived.Lib.ItoaLen
import Derived.Lib.Join
import Derived.Shelf.Strconv.Itoa4
import Derived.Shelf.Strings.OnBuilder
import Derived.Shelf.Strings.BuilderK
import Derived.Shelf.Strings.BuilderRune
import Derived.Shelf.LaysM
import Derived.Ground.NamesProg
namespace Go.Proofs.Ythfihlfjphiihaa
open Go.RowKit

set_option maxRecDepth 100000 in
set_option maxHeartbeats 4000000 in
theorem spec_l07Reach (A0 : Option Addr) (c0 : Nat) (a0 : (List tInstr)) (w : World) (h0 : Sl eInstr w (Old w) A0 c0 a0) (s0 : validProg a0 = true) (s1 : a0.length ≤ 1000) :
    Calls Try.prog 49 #[.slice A0 a0.length c0] w fun e w' => ∃ (A0' : Option Addr) (c0' : Nat), e = .returned (.slice A0' (keptP a0).length c0') ∧ So eInt w' (Fr w w') A0' c0' (keptP a0) ∧ Below w.heap.size w w' := by
  have l0 := h0.len
  have hnn := nxP_nn s0
  have HH1 := Held.start Nob w
  refine enter (n := 70) Try.func49 rfl rfl rfl fun a_2 HE3 => ?_
  refine wp_seq ?_
  refine rg ?_
  refine pl_x HE3 HH1 (wt0 rfl) (x_assign rfl) rfl rfl fun a_4 HE5 => ?_
  refine wpList_nil ?_
  clear a_2 HE3
  refine nrm ?_
  refine wp_seq ?_
  refine rg ?_
  refine pl fun K_6 hK7 => ?_
  refine st_lit (m := 0) (cs := []) (e := 2) HE5 HH1 (run_lit ts_37 HE5 (vs := []) rfl rfl (by simp [Value.cells]) rfl (by decide)) (wt0 rfl) rfl rfl fun q21 a_8 w' HE9 HH10 => hK7 _ _ ?_
  refine pl_x HE9 HH10 (wt0 rfl) (x_assign rfl) rfl rfl fun a_11 HE12 => ?_
  refine wpList_nil ?_
  clear a_4 HE5 HH1 a_8 HE9 hK7 K_6
  refine nrm ?_
  refine wp_seq ?_
  refine wp_seq ?_
  refine rg ?_
  refine pl_x HE12 HH10 (wt0 rfl) (x_move rfl) rfl rfl fun a_13 HE14 => ?_
  refine pl_x HE14 HH10 (wt0 rfl) (x_len Try.underlying36 rfl) rfl rfl fun a_15 HE16 => ?_
  refine pl_x HE16 HH10 (wt0 rfl) (x_gtr rfl rfl) rfl rfl fun a_17 HE18 => ?_
  refine wpList_nil ?_
  clear a_11 HE12 a_13 HE14 a_15 HE16
  refine nrm ?_
  refine cnd_d HE18 rfl (fun hc22 => ?_) (fun hc22 => ?_)
  · refine rg ?_
    refine pl_x HE18 HH10 (wt0 rfl) (x_move rfl) rfl rfl fun a_19 HE20 => ?_
    refine pl fun K_21 hK22 => ?_
    refine st_lit (m := 1) (cs := [.int .i64 (0)]) (e := 2) HE20 HH10 (run_lit ts_37 HE20 (vs := [.int .i64 (0)]) rfl rfl (by simp [Value.cells]) rfl (by decide)) (wt0 rfl) rfl rfl fun q23 a_23 w' HE24 HH25 => hK22 _ _ ?_
    refine pl fun K_26 hK27 => ?_
    have HH28 := HH25.sel [1, 0] (by decide) rfl
    have HH29 := Held.vecFlat (E := eInt) (xs := []) (css := []) HH28 rfl (Nat.zero_le _) (fun i x hx => by simp at hx)
    refine st_app1F 0 HE24 HH29 ts_37 [0, 1] (by decide) rfl (fun _ => (oI (by exact ⟨by omega, by omega⟩))) rfl rfl (by simp [Value.oneCell']) (by unfold maxLen; first | omega | (simp; done) | (simp; omega)) (by first | omega | (simp; done) | (simp; omega)) (wt0 rfl) rfl fun A24 c25 S26 a_30 w' HE31 HH32 => hK27 _ _ ?_
    have lA24 : List.length (([] : List Int) ++ [0]) = List.length ([] : List Int) + 1 := List.length_append
    refine pl_x HE31 HH32 (wt0 rfl) (x_assign rfl) rfl rfl fun a_33 HE34 => ?_
    refine wpList_nil ?_
    clear a_17 HE18 a_19 HE20 HH10 K_21 hK22 HH25 HH28 a_23 HE24 HH29 a_30 HE31 hK27 K_26
    refine nrm ?_
    refine wp_seq ?_
    refine wp_seq ?_
    refine rg ?_
    refine pl_x HE34 HH32 (wt0 rfl) (x_assign rfl) rfl rfl fun a_35 HE36 => ?_
    refine wpList_nil ?_
    clear a_33 HE34
    refine nrm ?_
    refine wp_block ?_
    refine lp (fun m a w' => ∃ (i : Nat) (A_3 : Option Addr) (c_3 : Nat) (S_3 : Nat → Prop), m = a0.length - i ∧ Env 70 [(3, .slice A_3 (List.length (bfsI a0 i)) c_3), (4, .int .i64 (i : Int)), (0, .slice A0 (a0.length) c0)] a ∧ Held Nob w [rVec eInt 2 S_3 A_3 c_3 (bfsI a0 i)] w' ∧ (i ≤ (bfsI a0 i).length)) (a0.length - (0)) ?_ ?_
    · have E27 : bfsI a0 0 = (([] : List Int) ++ [0]) := by
        rw [bfsI]; first | (rw [if_pos (by omega)]; rfl) | (rw [if_neg (by omega)])
      exact ⟨0, A24, c25, S26, rfl, HE36.sub ⟨(by rw [E27]; rfl), (lkI rfl (by first | rfl | omega | (simp [hc22]; done))), rfl, trivial⟩, ((HH32.sel [0] (by decide) rfl).to (by first | rfl | (rw [E27]; done) | (rw [E27]; rfl) | (simp only [E27]; done) | (simp only [E27]; rfl) | (rw [E27]; simp only [List.length_set]; done))), (by first | omega | assumption | (simp; done) | simp_all)⟩
    · rintro m a_37 w' ⟨i, A_3, c_3, S_3, rfl, HE38, HH39, p28_0⟩
      have hql := (bfsI_good hnn i).len
      refine wp_seq ?_
      refine wp_seq ?_
      refine rg ?_
      refine pl_x HE38 HH39 (wt0 rfl) (x_move rfl) rfl rfl fun a_40 HE41 => ?_
      refine pl_x HE41 HH39 (wt0 rfl) (x_move rfl) rfl rfl fun a_42 HE43 => ?_
      refine pl_x HE43 HH39 (wt0 rfl) (x_len Try.underlying37 rfl) rfl rfl fun a_44 HE45 => ?_
      refine pl_x HE45 HH39 (wt0 rfl) (x_lss rfl rfl) rfl rfl fun a_46 HE47 => ?_
      refine wpList_nil ?_
      clear a_35 HE36 HH32 a_37 HE38 a_40 HE41 a_42 HE43 a_44 HE45
      refine nrm ?_
      refine cnd_d HE47 rfl (fun hc29 => ?_) (fun hc29 => ?_)
      · refine wp_skip ?_
        refine nrm ?_
        refine wp_seq ?_
        refine wp_block ?_
        refine wp_seq ?_
        refine rg ?_
        refine pl_x HE47 HH39 (wt0 rfl) (x_move rfl) rfl rfl fun a_48 HE49 => ?_
        refine pl_x HE49 HH39 (wt0 rfl) (x_move rfl) rfl rfl fun a_50 HE51 => ?_
        refine pl_x HE51 HH39 (wt0 rfl) (x_move rfl) rfl rfl fun a_52 HE53 => ?_
        have ke30 : i < (List.length (bfsI a0 i)) := by omega
        obtain ⟨be30, rfl⟩ := el_vec HH39 (i := 0) rfl ke30
        refine pl_x HE53 HH39 (wt0 rfl) (x_indexAddr ts_37 rfl rfl rfl rfl ke30) rfl rfl fun a_54 HE55 => ?_
        obtain ⟨y31, xy31⟩ : ∃ y_, y_ = (bfsI a0 i)[i]'(by first | exact ke30 | (simp only [List.length_set]; exact ke30) | omega | (simp only [List.length_set]; omega) | (simp; omega)) := ⟨_, rfl⟩
        have iy31 : I64 y31 := by rw [xy31]; exact i_vecI HH39 0 rfl _
        have jy31 := iy31; unfold I64 at jy31
        have hby31 := (bfsI_good hnn i).rng y31 (by rw [xy31]; exact List.getElem_mem _)
        refine pl_x HE55 HH39 (wt0 rfl) (x_load1 tv_2 rfl (c_vecV 0 rfl (by first | exact ke30 | (simp only [List.length_set]; exact ke30) | omega | (simp only [List.length_set]; omega) | (simp; omega)) xy31.symm)) rfl rfl fun a_56 HE57 => ?_
        have ke32 : (y31).toNat < a0.length := by omega
        obtain ⟨be32, fe32, ese32, Ae32, Re32, De32⟩ := el_old h0 ke32
        obtain ⟨e32, xe32⟩ : ∃ x_, x_ = a0[(y31).toNat] := ⟨_, rfl⟩
        rw [← xe32] at Re32
        have Qe32 := Re32
        obtain ⟨rfl, ge32_0, ge32_1, ge32_2, ge32_3⟩ := shape_Instr Re32
        have je32_0 := ge32_0; unfold I64 at je32_0
        have je32_1 := ge32_1; unfold I64 at je32_1
        have je32_2 := ge32_2; unfold I64 at je32_2
        have je32_3 := ge32_3; unfold I64 at je32_3
        have hge32 : a0[(y31).toNat]?.getD default = e32 := by rw [List.getElem?_eq_getElem ke32, xe32]; rfl
        have hve32 := (validProg_okP s0).2 e32 (by rw [xe32]; exact List.getElem_mem _)
        refine pl_x HE57 HH39 (wt0 rfl) (x_indexAddr ts_36 rfl rfl Ae32 (by omega) ke32) rfl rfl fun a_58 HE59 => ?_
        refine pl_x HE59 HH39 (wt0 rfl) (x_loadN (cs := [.int .i64 (e32.1), .int .i64 (e32.2.1), .int .i64 (e32.2.2.1), .int .i64 (e32.2.2.2)]) tv_81 rfl rfl (c_oldN De32)) rfl rfl fun a_60 HE61 => ?_
        refine pl fun K_62 hK63 => ?_
        refine st_alloc HE61 HH39 tv_81 (wt0 rfl) rfl fun q33 a_64 w' HE65 HH66 => hK63 _ _ ?_
        refine pl fun K_67 hK68 => ?_
        refine st_store (vs := [.int .i64 (e32.1), .int .i64 (e32.2.1), .int .i64 (e32.2.2.1), .int .i64 (e32.2.2.2)]) 0 HE65 HH66 tv_81 rfl rfl rfl rfl rfl rfl (by simp [Value.oneCell']) (wt0 rfl) fun w' HH69 => hK68 _ _ ?_
        refine wpList_nil ?_
        clear a_46 HE47 a_48 HE49 a_50 HE51 a_52 HE53 a_54 HE55 a_56 HE57 a_58 HE59 a_60 HE61 HH39 K_62 hK63 HH66 hK68 K_67
        refine nrm ?_
        refine wp_seq ?_
        refine rg ?_
        refine pl_x HE65 HH69 (wt0 rfl) (x_fieldAddr fa_81_2 rfl) rfl rfl fun a_70 HE71 => ?_
        refine pl_x HE71 HH69 (wt0 rfl) (x_load1 tv_2 rfl (c_blk 0 rfl rfl)) rfl rfl fun a_72 HE73 => ?_
        refine pl fun K_74 hK75 => ?_
        refine st_lit (m := 1) (cs := [.int .i64 (e32.2.2.1)]) (e := 2) HE73 HH69 (run_lit ts_37 HE73 (vs := [.int .i64 (e32.2.2.1)]) rfl rfl (by simp [Value.cells]) rfl (by decide)) (wt0 rfl) rfl rfl fun q34 a_76 w' HE77 HH78 => hK75 _ _ ?_
        refine pl_x HE77 HH78 (wt0 rfl) (x_assign rfl) rfl rfl fun a_79 HE80 => ?_
        refine wpList_nil ?_
        clear a_64 HE65 a_70 HE71 a_72 HE73 HH69 a_76 HE77 hK75 K_74
        refine nrm ?_
        refine wp_seq ?_
        refine wp_seq ?_
        refine rg ?_
        refine pl_x HE80 HH78 (wt0 rfl) (x_fieldAddr fa_81_0 rfl) rfl rfl fun a_81 HE82 => ?_
        refine pl_x HE82 HH78 (wt0 rfl) (x_load1 tv_2 rfl (c_blk 1 rfl rfl)) rfl rfl fun a_83 HE84 => ?_
        refine pl_x HE84 HH78 (wt0 rfl) (x_eql rfl rfl) rfl rfl fun a_85 HE86 => ?_
        refine wpList_nil ?_
        clear a_79 HE80 a_81 HE82 a_83 HE84
        refine nrm ?_
        refine cnd_e HE86 rfl (fun hc35 => ?_) (fun hc35 => ?_)
        · refine rg ?_
          refine pl_x HE86 HH78 (wt0 rfl) (x_move rfl) rfl rfl fun a_87 HE88 => ?_
          refine pl_x HE88 HH78 (wt0 rfl) (x_fieldAddr fa_81_3 rfl) rfl rfl fun a_89 HE90 => ?_
          refine pl_x HE90 HH78 (wt0 rfl) (x_load1 tv_2 rfl (c_blk 1 rfl rfl)) rfl rfl fun a_91 HE92 => ?_
          refine pl fun K_93 hK94 => ?_
          refine st_lit (m := 1) (cs := [.int .i64 (e32.2.2.2)]) (e := 2) HE92 HH78 (run_lit ts_37 HE92 (vs := [.int .i64 (e32.2.2.2)]) rfl rfl (by simp [Value.cells]) rfl (by decide)) (wt0 rfl) rfl rfl fun q36 a_95 w' HE96 HH97 => hK94 _ _ ?_
          refine pl fun K_98 hK99 => ?_
          have HH100 := HH97.sel [1, 0, 2, 3] (by decide) rfl
          have HH101 := Held.vecFlat (E := eInt) (xs := [e32.2.2.1]) (css := [[.int .i64 (e32.2.2.1)]]) HH100 rfl (by unfold maxLen; simp) (fun i x hx => by match i with | 0 => exact ⟨_, rfl, fun _ => by simp at hx; subst hx; exact (oI (by exact ⟨by omega, by omega⟩))⟩ | i + 1 => simp at hx)
          refine st_app1F e32.2.2.2 HE96 HH101 ts_37 [0, 1, 2, 3] (by decide) rfl (fun _ => (oI (by exact ⟨by omega, by omega⟩))) rfl rfl (by simp [Value.oneCell']) (by unfold maxLen; first | omega | (simp; done) | (simp; omega)) (by first | omega | (simp; done) | (simp; omega)) (wt0 rfl) rfl fun A37 c38 S39 a_102 w' HE103 HH104 => hK99 _ _ ?_
          have lA37 : List.length (([e32.2.2.1] : List Int) ++ [e32.2.2.2]) = List.length ([e32.2.2.1] : List Int) + 1 := List.length_append
          refine pl_x HE103 HH104 (wt0 rfl) (x_assign rfl) rfl rfl fun a_105 HE106 => ?_
          refine wpList_nil ?_
          clear a_85 HE86 a_87 HE88 a_89 HE90 a_91 HE92 HH78 K_93 hK94 HH97 HH100 a_95 HE96 HH101 a_102 HE103 hK99 K_98
          refine nrm ?_
          refine wp_seq ?_
          refine rg ?_
          refine pl_x HE106 HH104 (wt0 rfl) (x_assign rfl) rfl rfl fun a_107 HE108 => ?_
          refine wpList_nil ?_
          clear a_105 HE106
          refine nrm ?_
          refine wp_block ?_
          have hnx : nxP a0 y31 = (([e32.2.2.1] : List Int) ++ [e32.2.2.2]) := by unfold nxP; rw [hge32]; first | (rw [if_pos (by omega)]; done) | (rw [if_neg (by omega)]; done) | (rw [if_pos (by omega)]; rfl) | (rw [if_neg (by omega)]; rfl)
          have hby : (bfsI a0 i)[i]? = some y31 := by rw [xy31]; exact List.getElem?_eq_getElem _
          have hnl := nxP_len a0 y31
          have hnxl : (nxP a0 y31).length = (([e32.2.2.1] : List Int) ++ [e32.2.2.2]).length := by first | (rw [hnx]; done) | (rw [hnx]; rfl)
          refine lp (fun m a w' => ∃ (k : Nat) (A_3 : Option Addr) (c_3 : Nat) (S_3 : Nat → Prop), m = (nxP a0 y31).length - k ∧ Env 70 [(3, .slice A_3 (List.length (((nxP a0 y31).take k).foldl (addI (a0.length : Int)) (bfsI a0 i))) c_3), (7, .int .i64 (k : Int)), (0, .slice A0 (a0.length) c0), (4, .int .i64 ((i : Int))), (6, .slice A37 ((([e32.2.2.1] : List Int) ++ [e32.2.2.2]).length) c38)] a ∧ Held Nob w [rVec eInt 2 S_3 A_3 c_3 (((nxP a0 y31).take k).foldl (addI (a0.length : Int)) (bfsI a0 i)), rVec eInt 2 S39 A37 c38 (([e32.2.2.1] : List Int) ++ [e32.2.2.2]), rBlk q33 81 [.int .i64 (e32.1), .int .i64 (e32.2.1), .int .i64 (e32.2.2.1), .int .i64 (e32.2.2.2)]] w' ∧ (k ≤ (nxP a0 y31).length)) ((nxP a0 y31).length - (0)) ?_ ?_
          · have E40 : ((nxP a0 y31).take 0).foldl (addI (a0.length : Int)) (bfsI a0 i) = bfsI a0 i := by
              rfl
            exact ⟨0, (some ⟨be30, 0, none⟩), c_3, S_3, rfl, HE108.sub ⟨(by rw [E40]; rfl), (lkI rfl (by first | rfl | omega | (simp [hc22, p28_0, hc29, xy31, xe32, hc35]; done))), rfl, rfl, rfl, trivial⟩, ((HH104.sel [2, 0, 1] (by decide) rfl).to (by first | rfl | (rw [E40]; done) | (rw [E40]; rfl) | (simp only [E40]; done) | (simp only [E40]; rfl) | (rw [E40]; simp only [List.length_set]; done))), (by first | omega | assumption | (simp; done) | simp_all)⟩
          · rintro m a_109 w' ⟨k, A_3, c_3, S_3, rfl, HE110, HH111, p41_0⟩
            have hgq := (bfsI_fold hnn hby k).len
            have hle := addsI_len (a0.length : Int) ((nxP a0 y31).take k) (bfsI a0 i)
            refine wp_seq ?_
            refine wp_seq ?_
            refine rg ?_
            refine pl_x HE110 HH111 (wt0 rfl) (x_move rfl) rfl rfl fun a_112 HE113 => ?_
            refine pl_x HE113 HH111 (wt0 rfl) (x_move rfl) rfl rfl fun a_114 HE115 => ?_
            refine pl_x HE115 HH111 (wt0 rfl) (x_len Try.underlying37 rfl) rfl rfl fun a_116 HE117 => ?_
            refine pl_x HE117 HH111 (wt0 rfl) (x_lss rfl rfl) rfl rfl fun a_118 HE119 => ?_
            refine wpList_nil ?_
            clear a_107 HE108 HH104 a_109 HE110 a_112 HE113 a_114 HE115 a_116 HE117
            refine nrm ?_
            refine cnd_d HE119 rfl (fun hc42 => ?_) (fun hc42 => ?_)
            · refine wp_skip ?_
              refine nrm ?_
              refine wp_seq ?_
              refine wp_block ?_
              refine wp_seq ?_
              refine rg ?_
              refine pl_x HE119 HH111 (wt0 rfl) (x_move rfl) rfl rfl fun a_120 HE121 => ?_
              refine pl_x HE121 HH111 (wt0 rfl) (x_move rfl) rfl rfl fun a_122 HE123 => ?_
              have ke43 : k < (([e32.2.2.1] : List Int) ++ [e32.2.2.2]).length := by omega
              obtain ⟨be43, rfl⟩ := el_vec HH111 (i := 1) rfl ke43
              refine pl_x HE123 HH111 (wt0 rfl) (x_indexAddr ts_37 rfl rfl rfl rfl ke43) rfl rfl fun a_124 HE125 => ?_
              obtain ⟨y44, xy44⟩ : ∃ y_, y_ = (([e32.2.2.1] : List Int) ++ [e32.2.2.2])[k]'(by first | exact ke43 | (simp only [List.length_set]; exact ke43) | omega | (simp only [List.length_set]; omega) | (simp; omega)) := ⟨_, rfl⟩
              have iy44 : I64 y44 := by rw [xy44]; exact i_vecI HH111 1 rfl _
              have jy44 := iy44; unfold I64 at jy44
              refine pl_x HE125 HH111 (wt0 rfl) (x_load1 tv_2 rfl (c_vecV 1 rfl (by first | exact ke43 | (simp only [List.length_set]; exact ke43) | omega | (simp only [List.length_set]; omega) | (simp; omega)) xy44.symm)) rfl rfl fun a_126 HE127 => ?_
              refine pl_x HE127 HH111 (wt0 rfl) (x_move rfl) rfl rfl fun a_128 HE129 => ?_
              refine pl_x HE129 HH111 (wt0 rfl) (x_len Try.underlying36 rfl) rfl rfl fun a_130 HE131 => ?_
              refine pl_x HE131 HH111 (wt0 rfl) (x_lss rfl rfl) rfl rfl fun a_132 HE133 => ?_
              refine pl_x HE133 HH111 (wt0 rfl) (x_move rfl) rfl rfl fun a_134 HE135 => ?_
              by_cases hc45 : y44 < (a0.length : Int)
              · refine pl_x HE135 HH111 (wtT HE135 rfl rfl rfl (decide_eq_true hc45)) (x_move rfl) rfl rfl fun a_136 HE137 => ?_
                refine pl_x HE137 HH111 (wtT HE137 rfl rfl rfl (decide_eq_true hc45)) (x_move rfl) rfl rfl fun a_138 HE139 => ?_
                refine pl_x HE139 HH111 (wtT HE139 rfl rfl rfl (decide_eq_true hc45)) (x_move rfl) rfl rfl fun a_140 HE141 => ?_
                have ke46 : k < (([e32.2.2.1] : List Int) ++ [e32.2.2.2]).length := by omega
                refine pl_x HE141 HH111 (wtT HE141 rfl rfl rfl (decide_eq_true hc45)) (x_indexAddr ts_37 rfl rfl rfl rfl ke46) rfl rfl fun a_142 HE143 => ?_
                refine pl_x HE143 HH111 (wtT HE143 rfl rfl rfl (decide_eq_true hc45)) (x_load1 tv_2 rfl (c_vecV 1 rfl (by first | exact ke46 | (simp only [List.length_set]; exact ke46) | omega | (simp only [List.length_set]; omega) | (simp; omega)) xy44.symm)) rfl rfl fun a_144 HE145 => ?_
                refine pl fun K_146 hK147 => ?_
                refine st_call HE145 (wtT HE145 rfl rfl rfl (decide_eq_true hc45)) rfl rfl rfl en_87 rfl rfl (spec_l00Has _ _ (((nxP a0 y31).take k).foldl (addI (a0.length : Int)) (bfsI a0 i)) y44 _ (HH111.vecSl (i := 0) rfl)) fun e w' hr => ?_
                obtain ⟨rfl, hbr47⟩ := hr
                have HH148 := HH111.on hbr47
                refine ⟨_, rfl, fun a_149 HE150 => hK147 _ _ ?_⟩
                refine pl_x HE150 HH148 (wtT HE150 rfl rfl rfl (decide_eq_true hc45)) (x_not rfl) rfl rfl fun a_151 HE152 => ?_
                refine pl_x HE152 HH148 (wt0 rfl) (x_pickT rfl (decide_eq_true hc45) rfl) rfl rfl fun a_153 HE154 => ?_
                refine wpList_nil ?_
                clear a_118 HE119 a_120 HE121 a_122 HE123 a_124 HE125 a_126 HE127 a_128 HE129 a_130 HE131 a_132 HE133 a_134 HE135 a_136 HE137 a_138 HE139 a_140 HE141 a_142 HE143 HH111 a_144 HE145 a_149 HE150 a_151 HE152 hK147 K_146
                refine nrm ?_
                refine cnd_nb HE154 rfl (fun hc48 => ?_) (fun hc48 => ?_)
                · refine rg ?_
                  refine pl_x HE154 HH148 (wt0 rfl) (x_move rfl) rfl rfl fun a_155 HE156 => ?_
                  refine pl_x HE156 HH148 (wt0 rfl) (x_move rfl) rfl rfl fun a_157 HE158 => ?_
                  refine pl_x HE158 HH148 (wt0 rfl) (x_move rfl) rfl rfl fun a_159 HE160 => ?_
                  have ke49 : k < (([e32.2.2.1] : List Int) ++ [e32.2.2.2]).length := by omega
                  refine pl_x HE160 HH148 (wt0 rfl) (x_indexAddr ts_37 rfl rfl rfl rfl ke49) rfl rfl fun a_161 HE162 => ?_
                  refine pl_x HE162 HH148 (wt0 rfl) (x_load1 tv_2 rfl (c_vecV 1 rfl (by first | exact ke49 | (simp only [List.length_set]; exact ke49) | omega | (simp only [List.length_set]; omega) | (simp; omega)) xy44.symm)) rfl rfl fun a_163 HE164 => ?_
                  refine pl fun K_165 hK166 => ?_
                  refine st_lit (m := 1) (cs := [.int .i64 (y44)]) (e := 2) HE164 HH148 (run_lit ts_37 HE164 (vs := [.int .i64 (y44)]) rfl rfl (by simp [Value.cells]) rfl (by decide)) (wt0 rfl) rfl rfl fun q50 a_167 w' HE168 HH169 => hK166 _ _ ?_
                  refine pl fun K_170 hK171 => ?_
                  refine st_app1F y44 HE168 HH169 ts_37 [1, 0, 2, 3] (by decide) rfl (fun _ => (oI (by exact ⟨by omega, by omega⟩))) rfl rfl (by simp [Value.oneCell']) (by unfold maxLen; first | omega | (simp; done) | (simp; omega)) (by first | omega | (simp; done) | (simp; omega)) (wt0 rfl) rfl fun A51 c52 S53 a_172 w' HE173 HH174 => hK171 _ _ ?_
                  have lA51 : List.length (((nxP a0 y31).take k).foldl (addI (a0.length : Int)) (bfsI a0 i) ++ [y44]) = List.length (((nxP a0 y31).take k).foldl (addI (a0.length : Int)) (bfsI a0 i)) + 1 := List.length_append
                  refine pl_x HE173 HH174 (wt0 rfl) (x_assign rfl) rfl rfl fun a_175 HE176 => ?_
                  refine wpList_nil ?_
                  clear a_153 HE154 a_155 HE156 a_157 HE158 a_159 HE160 a_161 HE162 a_163 HE164 HH148 K_165 hK166 a_167 HE168 HH169 a_172 HE173 hK171 K_170
                  refine blk_n ?_
                  refine nrm ?_
                  refine rg ?_
                  refine pl_x HE176 HH174 (wt0 rfl) (x_move rfl) rfl rfl fun a_177 HE178 => ?_
                  refine pl_x HE178 HH174 (wt0 rfl) (x_add rfl rfl (by exact ⟨by omega, by omega⟩)) rfl rfl fun a_179 HE180 => ?_
                  refine pl_x HE180 HH174 (wt0 rfl) (x_assign rfl) rfl rfl fun a_181 HE182 => ?_
                  refine wpList_nil ?_
                  clear a_175 HE176 a_177 HE178 a_179 HE180
                  have E54 : ((nxP a0 y31).take (k + 1)).foldl (addI (a0.length : Int)) (bfsI a0 i) = (((nxP a0 y31).take k).foldl (addI (a0.length : Int)) (bfsI a0 i) ++ [y44]) := by
                    have hq : (nxP a0 y31)[k]? = some y44 := by rw [hnx, xy44]; exact List.getElem?_eq_getElem _
                    rw [take_snocI hq, List.foldl_append]; show addI _ _ _ = _; first | exact addI_hit (by omega) (by assumption) | exact addI_miss (.inl (by omega)) | exact addI_miss (.inr (by assumption))
                  exact nrm ⟨(nxP a0 y31).length - (k + 1), (by omega), k + 1, A51, c52, S53, rfl, HE182.sub ⟨(by rw [E54]; rfl), (lkI rfl (by first | rfl | omega | (simp [hc22, p28_0, hc29, xy31, xe32, hc35, p41_0, hc42, xy44, hc45, hc48]; done))), rfl, rfl, rfl, trivial⟩, ((HH174.sel [0, 1, 2] (by decide) rfl).to (by first | rfl | (rw [E54]; done) | (rw [E54]; rfl) | (simp only [E54]; done) | (simp only [E54]; rfl) | (rw [E54]; simp only [List.length_set]; done))), (by first | omega | assumption | (simp; done) | simp_all)⟩
                · refine wp_skip ?_
                  refine blk_n ?_
                  refine nrm ?_
                  refine rg ?_
                  refine pl_x HE154 HH148 (wt0 rfl) (x_move rfl) rfl rfl fun a_183 HE184 => ?_
                  refine pl_x HE184 HH148 (wt0 rfl) (x_add rfl rfl (by exact ⟨by omega, by omega⟩)) rfl rfl fun a_185 HE186 => ?_
                  refine pl_x HE186 HH148 (wt0 rfl) (x_assign rfl) rfl rfl fun a_187 HE188 => ?_
                  refine wpList_nil ?_
                  clear a_153 HE154 a_183 HE184 a_185 HE186
                  have E55 : ((nxP a0 y31).take (k + 1)).foldl (addI (a0.length : Int)) (bfsI a0 i) = ((nxP a0 y31).take k).foldl (addI (a0.length : Int)) (bfsI a0 i) := by
                    have hq : (nxP a0 y31)[k]? = some y44 := by rw [hnx, xy44]; exact List.getElem?_eq_getElem _
                    rw [take_snocI hq, List.foldl_append]; show addI _ _ _ = _; first | exact addI_hit (by omega) (by assumption) | exact addI_miss (.inl (by omega)) | exact addI_miss (.inr (by assumption))
                  exact nrm ⟨(nxP a0 y31).length - (k + 1), (by omega), k + 1, A_3, c_3, S_3, rfl, HE188.sub ⟨(by rw [E55]; rfl), (lkI rfl (by first | rfl | omega | (simp [hc22, p28_0, hc29, xy31, xe32, hc35, p41_0, hc42, xy44, hc45, hc48]; done))), rfl, rfl, rfl, trivial⟩, ((HH148.sel [0, 1, 2] (by decide) rfl).to (by first | rfl | (rw [E55]; done) | (rw [E55]; rfl) | (simp only [E55]; done) | (simp only [E55]; rfl) | (rw [E55]; simp only [List.length_set]; done))), (by first | omega | assumption | (simp; done) | simp_all)⟩
              · refine pl_no HE135 (wtF HE135 rfl rfl rfl (decide_eq_false hc45)) rfl rfl fun a_189 HE190 => ?_
                refine pl_no HE190 (wtF HE190 rfl rfl rfl (decide_eq_false hc45)) rfl rfl fun a_191 HE192 => ?_
                refine pl_no HE192 (wtF HE192 rfl rfl rfl (decide_eq_false hc45)) rfl rfl fun a_193 HE194 => ?_
                refine pl_no HE194 (wtF HE194 rfl rfl rfl (decide_eq_false hc45)) rfl rfl fun a_195 HE196 => ?_
                refine pl_no HE196 (wtF HE196 rfl rfl rfl (decide_eq_false hc45)) rfl rfl fun a_197 HE198 => ?_
                refine pl_no HE198 (wtF HE198 rfl rfl rfl (decide_eq_false hc45)) rfl rfl fun a_199 HE200 => ?_
                refine pl_no HE200 (wtF HE200 rfl rfl rfl (decide_eq_false hc45)) rfl rfl fun a_201 HE202 => ?_
                refine pl_x HE202 HH111 (wt0 rfl) (x_pickF rfl (decide_eq_false hc45) rfl) rfl rfl fun a_203 HE204 => ?_
                refine wpList_nil ?_
                clear a_118 HE119 a_120 HE121 a_122 HE123 a_124 HE125 a_126 HE127 a_128 HE129 a_130 HE131 a_132 HE133 a_134 HE135 a_189 HE190 a_191 HE192 a_193 HE194 a_195 HE196 a_197 HE198 a_199 HE200 a_201 HE202
                refine nrm ?_
                refine cndF HE204 rfl rfl ?_
                refine wp_skip ?_
                refine blk_n ?_
                refine nrm ?_
                refine rg ?_
                refine pl_x HE204 HH111 (wt0 rfl) (x_move rfl) rfl rfl fun a_205 HE206 => ?_
                refine pl_x HE206 HH111 (wt0 rfl) (x_add rfl rfl (by exact ⟨by omega, by omega⟩)) rfl rfl fun a_207 HE208 => ?_
                refine pl_x HE208 HH111 (wt0 rfl) (x_assign rfl) rfl rfl fun a_209 HE210 => ?_
                refine wpList_nil ?_
                clear a_203 HE204 a_205 HE206 a_207 HE208
                have E56 : ((nxP a0 y31).take (k + 1)).foldl (addI (a0.length : Int)) (bfsI a0 i) = ((nxP a0 y31).take k).foldl (addI (a0.length : Int)) (bfsI a0 i) := by
                  have hq : (nxP a0 y31)[k]? = some y44 := by rw [hnx, xy44]; exact List.getElem?_eq_getElem _
                  rw [take_snocI hq, List.foldl_append]; show addI _ _ _ = _; first | exact addI_hit (by omega) (by assumption) | exact addI_miss (.inl (by omega)) | exact addI_miss (.inr (by assumption))
                exact nrm ⟨(nxP a0 y31).length - (k + 1), (by omega), k + 1, A_3, c_3, S_3, rfl, HE210.sub ⟨(by rw [E56]; rfl), (lkI rfl (by first | rfl | omega | (simp [hc22, p28_0, hc29, xy31, xe32, hc35, p41_0, hc42, xy44, hc45]; done))), rfl, rfl, rfl, trivial⟩, ((HH111.sel [0, 1, 2] (by decide) rfl).to (by first | rfl | (rw [E56]; done) | (rw [E56]; rfl) | (simp only [E56]; done) | (simp only [E56]; rfl) | (rw [E56]; simp only [List.length_set]; done))), (by first | omega | assumption | (simp; done) | simp_all)⟩
            · refine wp_exit ?_
              refine (thn_exit (thn_exit (blk_hit ?_)))
              refine blk_n ?_
              refine nrm ?_
              refine rg ?_
              refine pl_x HE119 HH111 (wt0 rfl) (x_move rfl) rfl rfl fun a_211 HE212 => ?_
              refine pl_x HE212 HH111 (wt0 rfl) (x_add rfl rfl (by exact ⟨by omega, by omega⟩)) rfl rfl fun a_213 HE214 => ?_
              refine pl_x HE214 HH111 (wt0 rfl) (x_assign rfl) rfl rfl fun a_215 HE216 => ?_
              refine wpList_nil ?_
              clear a_118 HE119 a_211 HE212 a_213 HE214
              have E57 : bfsI a0 (i + 1) = ((nxP a0 y31).take k).foldl (addI (a0.length : Int)) (bfsI a0 i) := by
                exact bfsI_next hby (by omega)
              exact nrm ⟨a0.length - (i + 1), (by omega), i + 1, A_3, c_3, S_3, rfl, HE216.sub ⟨(by rw [E57]; rfl), (lkI rfl (by first | rfl | omega | (simp [hc22, p28_0, hc29, xy31, xe32, hc35, p41_0, hc42]; done))), rfl, trivial⟩, ((HH111.sel [0] (by decide) rfl).to (by first | rfl | (rw [E57]; done) | (rw [E57]; rfl) | (simp only [E57]; done) | (simp only [E57]; rfl) | (rw [E57]; simp only [List.length_set]; done))), (by rw [bfsI_next hby (k := k) (by omega)]; omega)⟩
        · refine wp_skip ?_
          refine nrm ?_
          refine wp_seq ?_
          refine rg ?_
          refine pl_x HE86 HH78 (wt0 rfl) (x_assign rfl) rfl rfl fun a_217 HE218 => ?_
          refine wpList_nil ?_
          clear a_85 HE86
          refine nrm ?_
          refine wp_block ?_
          have HH219 := Held.vecFlat (E := eInt) (xs := [e32.2.2.1]) (css := [[.int .i64 (e32.2.2.1)]]) HH78 rfl (by unfold maxLen; simp) (fun i x hx => by match i with | 0 => exact ⟨_, rfl, fun _ => by simp at hx; subst hx; exact (oI (by exact ⟨by omega, by omega⟩))⟩ | i + 1 => simp at hx)
          have hnx : nxP a0 y31 = ([e32.2.2.1] : List Int) := by unfold nxP; rw [hge32]; first | (rw [if_pos (by omega)]; done) | (rw [if_neg (by omega)]; done) | (rw [if_pos (by omega)]; rfl) | (rw [if_neg (by omega)]; rfl)
          have hby : (bfsI a0 i)[i]? = some y31 := by rw [xy31]; exact List.getElem?_eq_getElem _
          have hnl := nxP_len a0 y31
          have hnxl : (nxP a0 y31).length = 1 := by first | (rw [hnx]; done) | (rw [hnx]; rfl)
          refine lp (fun m a w' => ∃ (k : Nat) (A_3 : Option Addr) (c_3 : Nat) (S_3 : Nat → Prop), m = (nxP a0 y31).length - k ∧ Env 70 [(3, .slice A_3 (List.length (((nxP a0 y31).take k).foldl (addI (a0.length : Int)) (bfsI a0 i))) c_3), (7, .int .i64 (k : Int)), (0, .slice A0 (a0.length) c0), (4, .int .i64 ((i : Int))), (6, .slice (some ⟨q34, 0, none⟩) (1) 1)] a ∧ Held Nob w [rVec eInt 2 S_3 A_3 c_3 (((nxP a0 y31).take k).foldl (addI (a0.length : Int)) (bfsI a0 i)), rVec eInt 2 (fun b => b = q34) (some ⟨q34, 0, none⟩) (List.length (α := Int) [e32.2.2.1]) ([e32.2.2.1] : List Int), rBlk q33 81 [.int .i64 (e32.1), .int .i64 (e32.2.1), .int .i64 (e32.2.2.1), .int .i64 (e32.2.2.2)]] w' ∧ (k ≤ (nxP a0 y31).length)) ((nxP a0 y31).length - (0)) ?_ ?_
          · have E58 : ((nxP a0 y31).take 0).foldl (addI (a0.length : Int)) (bfsI a0 i) = bfsI a0 i := by
              rfl
            exact ⟨0, (some ⟨be30, 0, none⟩), c_3, S_3, rfl, HE218.sub ⟨(by rw [E58]; rfl), (lkI rfl (by first | rfl | omega | (simp [hc22, p28_0, hc29, xy31, xe32, hc35]; done))), rfl, rfl, rfl, trivial⟩, ((HH219.sel [2, 0, 1] (by decide) rfl).to (by first | rfl | (rw [E58]; done) | (rw [E58]; rfl) | (simp only [E58]; done) | (simp only [E58]; rfl) | (rw [E58]; simp only [List.length_set]; done))), (by first | omega | assumption | (simp; done) | simp_all)⟩
          · rintro m a_220 w' ⟨k, A_3, c_3, S_3, rfl, HE221, HH222, p59_0⟩
            have hgq := (bfsI_fold hnn hby k).len
            have hle := addsI_len (a0.length : Int) ((nxP a0 y31).take k) (bfsI a0 i)
            refine wp_seq ?_
            refine wp_seq ?_
            refine rg ?_
            refine pl_x HE221 HH222 (wt0 rfl) (x_move rfl) rfl rfl fun a_223 HE224 => ?_
            refine pl_x HE224 HH222 (wt0 rfl) (x_move rfl) rfl rfl fun a_225 HE226 => ?_
            refine pl_x HE226 HH222 (wt0 rfl) (x_len Try.underlying37 rfl) rfl rfl fun a_227 HE228 => ?_
            refine pl_x HE228 HH222 (wt0 rfl) (x_lss rfl rfl) rfl rfl fun a_229 HE230 => ?_
            refine wpList_nil ?_
            clear HH78 a_217 HE218 HH219 a_220 HE221 a_223 HE224 a_225 HE226 a_227 HE228
            refine nrm ?_
            refine cnd_d HE230 rfl (fun hc60 => ?_) (fun hc60 => ?_)
            · refine wp_skip ?_
              refine nrm ?_
              refine wp_seq ?_
              refine wp_block ?_
              refine wp_seq ?_
              refine rg ?_
              refine pl_x HE230 HH222 (wt0 rfl) (x_move rfl) rfl rfl fun a_231 HE232 => ?_
              refine pl_x HE232 HH222 (wt0 rfl) (x_move rfl) rfl rfl fun a_233 HE234 => ?_
              have ke61 : k < 1 := by omega
              refine pl_x HE234 HH222 (wt0 rfl) (x_indexAddr ts_37 rfl rfl rfl rfl ke61) rfl rfl fun a_235 HE236 => ?_
              obtain ⟨y62, xy62⟩ : ∃ y_, y_ = ([e32.2.2.1] : List Int)[k]'(by first | exact ke61 | (simp only [List.length_set]; exact ke61) | omega | (simp only [List.length_set]; omega) | (simp; omega)) := ⟨_, rfl⟩
              have iy62 : I64 y62 := by rw [xy62]; exact i_vecI HH222 1 rfl _
              have jy62 := iy62; unfold I64 at jy62
              refine pl_x HE236 HH222 (wt0 rfl) (x_load1 tv_2 rfl (c_vecV 1 rfl (by first | exact ke61 | (simp only [List.length_set]; exact ke61) | omega | (simp only [List.length_set]; omega) | (simp; omega)) xy62.symm)) rfl rfl fun a_237 HE238 => ?_
              refine pl_x HE238 HH222 (wt0 rfl) (x_move rfl) rfl rfl fun a_239 HE240 => ?_
              refine pl_x HE240 HH222 (wt0 rfl) (x_len Try.underlying36 rfl) rfl rfl fun a_241 HE242 => ?_
              refine pl_x HE242 HH222 (wt0 rfl) (x_lss rfl rfl) rfl rfl fun a_243 HE244 => ?_
              refine pl_x HE244 HH222 (wt0 rfl) (x_move rfl) rfl rfl fun a_245 HE246 => ?_
              by_cases hc63 : y62 < (a0.length : Int)
              · refine pl_x HE246 HH222 (wtT HE246 rfl rfl rfl (decide_eq_true hc63)) (x_move rfl) rfl rfl fun a_247 HE248 => ?_
                refine pl_x HE248 HH222 (wtT HE248 rfl rfl rfl (decide_eq_true hc63)) (x_move rfl) rfl rfl fun a_249 HE250 => ?_
                refine pl_x HE250 HH222 (wtT HE250 rfl rfl rfl (decide_eq_true hc63)) (x_move rfl) rfl rfl fun a_251 HE252 => ?_
                have ke64 : k < 1 := by omega
                refine pl_x HE252 HH222 (wtT HE252 rfl rfl rfl (decide_eq_true hc63)) (x_indexAddr ts_37 rfl rfl rfl rfl ke64) rfl rfl fun a_253 HE254 => ?_
                refine pl_x HE254 HH222 (wtT HE254 rfl rfl rfl (decide_eq_true hc63)) (x_load1 tv_2 rfl (c_vecV 1 rfl (by first | exact ke64 | (simp only [List.length_set]; exact ke64) | omega | (simp only [List.length_set]; omega) | (simp; omega)) xy62.symm)) rfl rfl fun a_255 HE256 => ?_
                refine pl fun K_257 hK258 => ?_
                refine st_call HE256 (wtT HE256 rfl rfl rfl (decide_eq_true hc63)) rfl rfl rfl en_87 rfl rfl (spec_l00Has _ _ (((nxP a0 y31).take k).foldl (addI (a0.length : Int)) (bfsI a0 i)) y62 _ (HH222.vecSl (i := 0) rfl)) fun e w' hr => ?_
                obtain ⟨rfl, hbr65⟩ := hr
                have HH259 := HH222.on hbr65
                refine ⟨_, rfl, fun a_260 HE261 => hK258 _ _ ?_⟩
                refine pl_x HE261 HH259 (wtT HE261 rfl rfl rfl (decide_eq_true hc63)) (x_not rfl) rfl rfl fun a_262 HE263 => ?_
                refine pl_x HE263 HH259 (wt0 rfl) (x_pickT rfl (decide_eq_true hc63) rfl) rfl rfl fun a_264 HE265 => ?_
                refine wpList_nil ?_
                clear a_229 HE230 a_231 HE232 a_233 HE234 a_235 HE236 a_237 HE238 a_239 HE240 a_241 HE242 a_243 HE244 a_245 HE246 a_247 HE248 a_249 HE250 a_251 HE252 a_253 HE254 HH222 a_255 HE256 a_260 HE261 a_262 HE263 hK258 K_257
                refine nrm ?_
                refine cnd_nb HE265 rfl (fun hc66 => ?_) (fun hc66 => ?_)
                · refine rg ?_
                  refine pl_x HE265 HH259 (wt0 rfl) (x_move rfl) rfl rfl fun a_266 HE267 => ?_
                  refine pl_x HE267 HH259 (wt0 rfl) (x_move rfl) rfl rfl fun a_268 HE269 => ?_
                  refine pl_x HE269 HH259 (wt0 rfl) (x_move rfl) rfl rfl fun a_270 HE271 => ?_
                  have ke67 : k < 1 := by omega
                  refine pl_x HE271 HH259 (wt0 rfl) (x_indexAddr ts_37 rfl rfl rfl rfl ke67) rfl rfl fun a_272 HE273 => ?_
                  refine pl_x HE273 HH259 (wt0 rfl) (x_load1 tv_2 rfl (c_vecV 1 rfl (by first | exact ke67 | (simp only [List.length_set]; exact ke67) | omega | (simp only [List.length_set]; omega) | (simp; omega)) xy62.symm)) rfl rfl fun a_274 HE275 => ?_
                  refine pl fun K_276 hK277 => ?_
                  refine st_lit (m := 1) (cs := [.int .i64 (y62)]) (e := 2) HE275 HH259 (run_lit ts_37 HE275 (vs := [.int .i64 (y62)]) rfl rfl (by simp [Value.cells]) rfl (by decide)) (wt0 rfl) rfl rfl fun q68 a_278 w' HE279 HH280 => hK277 _ _ ?_
                  refine pl fun K_281 hK282 => ?_
                  refine st_app1F y62 HE279 HH280 ts_37 [1, 0, 2, 3] (by decide) rfl (fun _ => (oI (by exact ⟨by omega, by omega⟩))) rfl rfl (by simp [Value.oneCell']) (by unfold maxLen; first | omega | (simp; done) | (simp; omega)) (by first | omega | (simp; done) | (simp; omega)) (wt0 rfl) rfl fun A69 c70 S71 a_283 w' HE284 HH285 => hK282 _ _ ?_
                  have lA69 : List.length (((nxP a0 y31).take k).foldl (addI (a0.length : Int)) (bfsI a0 i) ++ [y62]) = List.length (((nxP a0 y31).take k).foldl (addI (a0.length : Int)) (bfsI a0 i)) + 1 := List.length_append
                  refine pl_x HE284 HH285 (wt0 rfl) (x_assign rfl) rfl rfl fun a_286 HE287 => ?_
                  refine wpList_nil ?_
                  clear a_264 HE265 a_266 HE267 a_268 HE269 a_270 HE271 a_272 HE273 a_274 HE275 HH259 K_276 hK277 a_278 HE279 HH280 a_283 HE284 hK282 K_281
                  refine blk_n ?_
                  refine nrm ?_
                  refine rg ?_
                  refine pl_x HE287 HH285 (wt0 rfl) (x_move rfl) rfl rfl fun a_288 HE289 => ?_
                  refine pl_x HE289 HH285 (wt0 rfl) (x_add rfl rfl (by exact ⟨by omega, by omega⟩)) rfl rfl fun a_290 HE291 => ?_
                  refine pl_x HE291 HH285 (wt0 rfl) (x_assign rfl) rfl rfl fun a_292 HE293 => ?_
                  refine wpList_nil ?_
                  clear a_286 HE287 a_288 HE289 a_290 HE291
                  have E72 : ((nxP a0 y31).take (k + 1)).foldl (addI (a0.length : Int)) (bfsI a0 i) = (((nxP a0 y31).take k).foldl (addI (a0.length : Int)) (bfsI a0 i) ++ [y62]) := by
                    have hq : (nxP a0 y31)[k]? = some y62 := by rw [hnx, xy62]; exact List.getElem?_eq_getElem _
                    rw [take_snocI hq, List.foldl_append]; show addI _ _ _ = _; first | exact addI_hit (by omega) (by assumption) | exact addI_miss (.inl (by omega)) | exact addI_miss (.inr (by assumption))
                  exact nrm ⟨(nxP a0 y31).length - (k + 1), (by omega), k + 1, A69, c70, S71, rfl, HE293.sub ⟨(by rw [E72]; rfl), (lkI rfl (by first | rfl | omega | (simp [hc22, p28_0, hc29, xy31, xe32, hc35, p59_0, hc60, xy62, hc63, hc66]; done))), rfl, rfl, rfl, trivial⟩, ((HH285.sel [0, 1, 2] (by decide) rfl).to (by first | rfl | (rw [E72]; done) | (rw [E72]; rfl) | (simp only [E72]; done) | (simp only [E72]; rfl) | (rw [E72]; simp only [List.length_set]; done))), (by first | omega | assumption | (simp; done) | simp_all)⟩
                · refine wp_skip ?_
                  refine blk_n ?_
                  refine nrm ?_
                  refine rg ?_
                  refine pl_x HE265 HH259 (wt0 rfl) (x_move rfl) rfl rfl fun a_294 HE295 => ?_
                  refine pl_x HE295 HH259 (wt0 rfl) (x_add rfl rfl (by exact ⟨by omega, by omega⟩)) rfl rfl fun a_296 HE297 => ?_
                  refine pl_x HE297 HH259 (wt0 rfl) (x_assign rfl) rfl rfl fun a_298 HE299 => ?_
                  refine wpList_nil ?_
                  clear a_264 HE265 a_294 HE295 a_296 HE297
                  have E73 : ((nxP a0 y31).take (k + 1)).foldl (addI (a0.length : Int)) (bfsI a0 i) = ((nxP a0 y31).take k).foldl (addI (a0.length : Int)) (bfsI a0 i) := by
                    have hq : (nxP a0 y31)[k]? = some y62 := by rw [hnx, xy62]; exact List.getElem?_eq_getElem _
                    rw [take_snocI hq, List.foldl_append]; show addI _ _ _ = _; first | exact addI_hit (by omega) (by assumption) | exact addI_miss (.inl (by omega)) | exact addI_miss (.inr (by assumption))
                  exact nrm ⟨(nxP a0 y31).length - (k + 1), (by omega), k + 1, A_3, c_3, S_3, rfl, HE299.sub ⟨(by rw [E73]; rfl), (lkI rfl (by first | rfl | omega | (simp [hc22, p28_0, hc29, xy31, xe32, hc35, p59_0, hc60, xy62, hc63, hc66]; done))), rfl, rfl, rfl, trivial⟩, ((HH259.sel [0, 1, 2] (by decide) rfl).to (by first | rfl | (rw [E73]; done) | (rw [E73]; rfl) | (simp only [E73]; done) | (simp only [E73]; rfl) | (rw [E73]; simp only [List.length_set]; done))), (by first | omega | assumption | (simp; done) | simp_all)⟩
              · refine pl_no HE246 (wtF HE246 rfl rfl rfl (decide_eq_false hc63)) rfl rfl fun a_300 HE301 => ?_
                refine pl_no HE301 (wtF HE301 rfl rfl rfl (decide_eq_false hc63)) rfl rfl fun a_302 HE303 => ?_
                refine pl_no HE303 (wtF HE303 rfl rfl rfl (decide_eq_false hc63)) rfl rfl fun a_304 HE305 => ?_
                refine pl_no HE305 (wtF HE305 rfl rfl rfl (decide_eq_false hc63)) rfl rfl fun a_306 HE307 => ?_
                refine pl_no HE307 (wtF HE307 rfl rfl rfl (decide_eq_false hc63)) rfl rfl fun a_308 HE309 => ?_
                refine pl_no HE309 (wtF HE309 rfl rfl rfl (decide_eq_false hc63)) rfl rfl fun a_310 HE311 => ?_
                refine pl_no HE311 (wtF HE311 rfl rfl rfl (decide_eq_false hc63)) rfl rfl fun a_312 HE313 => ?_
                refine pl_x HE313 HH222 (wt0 rfl) (x_pickF rfl (decide_eq_false hc63) rfl) rfl rfl fun a_314 HE315 => ?_
                refine wpList_nil ?_
                clear a_229 HE230 a_231 HE232 a_233 HE234 a_235 HE236 a_237 HE238 a_239 HE240 a_241 HE242 a_243 HE244 a_245 HE246 a_300 HE301 a_302 HE303 a_304 HE305 a_306 HE307 a_308 HE309 a_310 HE311 a_312 HE313
                refine nrm ?_
                refine cndF HE315 rfl rfl ?_
                refine wp_skip ?_
                refine blk_n ?_
                refine nrm ?_
                refine rg ?_
                refine pl_x HE315 HH222 (wt0 rfl) (x_move rfl) rfl rfl fun a_316 HE317 => ?_
                refine pl_x HE317 HH222 (wt0 rfl) (x_add rfl rfl (by exact ⟨by omega, by omega⟩)) rfl rfl fun a_318 HE319 => ?_
                refine pl_x HE319 HH222 (wt0 rfl) (x_assign rfl) rfl rfl fun a_320 HE321 => ?_
                refine wpList_nil ?_
                clear a_314 HE315 a_316 HE317 a_318 HE319
                have E74 : ((nxP a0 y31).take (k + 1)).foldl (addI (a0.length : Int)) (bfsI a0 i) = ((nxP a0 y31).take k).foldl (addI (a0.length : Int)) (bfsI a0 i) := by
                  have hq : (nxP a0 y31)[k]? = some y62 := by rw [hnx, xy62]; exact List.getElem?_eq_getElem _
                  rw [take_snocI hq, List.foldl_append]; show addI _ _ _ = _; first | exact addI_hit (by omega) (by assumption) | exact addI_miss (.inl (by omega)) | exact addI_miss (.inr (by assumption))
                exact nrm ⟨(nxP a0 y31).length - (k + 1), (by omega), k + 1, A_3, c_3, S_3, rfl, HE321.sub ⟨(by rw [E74]; rfl), (lkI rfl (by first | rfl | omega | (simp [hc22, p28_0, hc29, xy31, xe32, hc35, p59_0, hc60, xy62, hc63]; done))), rfl, rfl, rfl, trivial⟩, ((HH222.sel [0, 1, 2] (by decide) rfl).to (by first | rfl | (rw [E74]; done) | (rw [E74]; rfl) | (simp only [E74]; done) | (simp only [E74]; rfl) | (rw [E74]; simp only [List.length_set]; done))), (by first | omega | assumption | (simp; done) | simp_all)⟩
            · refine wp_exit ?_
              refine (thn_exit (thn_exit (blk_hit ?_)))
              refine blk_n ?_
              refine nrm ?_
              refine rg ?_
              refine pl_x HE230 HH222 (wt0 rfl) (x_move rfl) rfl rfl fun a_322 HE323 => ?_
              refine pl_x HE323 HH222 (wt0 rfl) (x_add rfl rfl (by exact ⟨by omega, by omega⟩)) rfl rfl fun a_324 HE325 => ?_
              refine pl_x HE325 HH222 (wt0 rfl) (x_assign rfl) rfl rfl fun a_326 HE327 => ?_
              refine wpList_nil ?_
              clear a_229 HE230 a_322 HE323 a_324 HE325
              have E75 : bfsI a0 (i + 1) = ((nxP a0 y31).take k).foldl (addI (a0.length : Int)) (bfsI a0 i) := by
                exact bfsI_next hby (by omega)
              exact nrm ⟨a0.length - (i + 1), (by omega), i + 1, A_3, c_3, S_3, rfl, HE327.sub ⟨(by rw [E75]; rfl), (lkI rfl (by first | rfl | omega | (simp [hc22, p28_0, hc29, xy31, xe32, hc35, p59_0, hc60]; done))), rfl, trivial⟩, ((HH222.sel [0] (by decide) rfl).to (by first | rfl | (rw [E75]; done) | (rw [E75]; rfl) | (simp only [E75]; done) | (simp only [E75]; rfl) | (rw [E75]; simp only [List.length_set]; done))), (by rw [bfsI_next hby (k := k) (by omega)]; omega)⟩
      · refine wp_exit ?_
        refine (thn_exit (thn_exit (blk_hit ?_)))
        refine nrm ?_
        refine wp_seq ?_
        refine rg ?_
        refine pl_x HE47 HH39 (wt0 rfl) (x_move rfl) rfl rfl fun a_328 HE329 => ?_
        refine pl fun K_330 hK331 => ?_
        refine st_call HE329 (wt0 rfl) rfl rfl rfl en_88 rfl rfl (spec_l01Sorted _ _ (bfsI a0 i) _ (HH39.vecSl (i := 0) rfl) (by omega)) fun e w' hr => ?_
        obtain ⟨Ar76_0, cr76_0, rfl, hor76_0, hbr76⟩ := hr
        obtain ⟨Sr76, HH332⟩ := HH39.newS hbr76 hor76_0
        refine ⟨_, rfl, fun a_333 HE334 => hK331 _ _ ?_⟩
        refine pl_x HE334 HH332 (wt0 rfl) (x_assign rfl) rfl rfl fun a_335 HE336 => ?_
        refine wpList_nil ?_
        clear a_46 HE47 HH39 a_328 HE329 a_333 HE334 hK331 K_330
        refine nrm ?_
        refine wp_ret ?_
        refine ret1 HE336 rfl (rv_tmp rfl) ?_
        have hF : (keptP a0) = (sortI (bfsI a0 i)) := by
          exact (bfs_kept hnn (by omega)).symm
        exact ⟨Ar76_0, cr76_0, by first | (rw [hF] <;> rfl) | rfl | (rw [hF]; simp only [Ending.returned.injEq, Value.slice.injEq, true_and, and_true]; first | omega | (simp; done)) | (rw [hF]; simp; omega), by rw [hF]; exact (HH332.so (i := 0) rfl), HH332.below⟩
  · refine wp_skip ?_
    refine nrm ?_
    refine wp_seq ?_
    refine wp_seq ?_
    refine rg ?_
    refine pl_x HE18 HH10 (wt0 rfl) (x_assign rfl) rfl rfl fun a_337 HE338 => ?_
    refine wpList_nil ?_
    clear a_17 HE18
    refine nrm ?_
    refine wp_block ?_
    have HH339 := Held.vecFlat (E := eInt) (xs := []) (css := []) HH10 rfl (Nat.zero_le _) (fun i x hx => by simp at hx)
    refine lp (fun m a w' => ∃ (i : Nat) (A_3 : Option Addr) (c_3 : Nat) (S_3 : Nat → Prop), m = a0.length - i ∧ Env 70 [(3, .slice A_3 (List.length (bfsI a0 i)) c_3), (4, .int .i64 (i : Int)), (0, .slice A0 (a0.length) c0)] a ∧ Held Nob w [rVec eInt 2 S_3 A_3 c_3 (bfsI a0 i)] w' ∧ (i ≤ (bfsI a0 i).length)) (a0.length - (0)) ?_ ?_
    · have E77 : bfsI a0 0 = ([] : List Int) := by
        rw [bfsI]; first | (rw [if_pos (by omega)]; rfl) | (rw [if_neg (by omega)])
      exact ⟨0, (some ⟨q21, 0, none⟩), (List.length (α := Int) []), (fun b => b = q21), rfl, HE338.sub ⟨(by rw [E77]; rfl), (lkI rfl (by first | rfl | omega | (simp [hc22]; done))), rfl, trivial⟩, ((HH339.sel [0] (by decide) rfl).to (by first | rfl | (rw [E77]; done) | (rw [E77]; rfl) | (simp only [E77]; done) | (simp only [E77]; rfl) | (rw [E77]; simp only [List.length_set]; done))), (by first | omega | assumption | (simp; done) | simp_all)⟩
    · rintro m a_340 w' ⟨i, A_3, c_3, S_3, rfl, HE341, HH342, p78_0⟩
      have hql := (bfsI_good hnn i).len
      refine wp_seq ?_
      refine wp_seq ?_
      refine rg ?_
      refine pl_x HE341 HH342 (wt0 rfl) (x_move rfl) rfl rfl fun a_343 HE344 => ?_
      refine pl_x HE344 HH342 (wt0 rfl) (x_move rfl) rfl rfl fun a_345 HE346 => ?_
      refine pl_x HE346 HH342 (wt0 rfl) (x_len Try.underlying37 rfl) rfl rfl fun a_347 HE348 => ?_
      refine pl_x HE348 HH342 (wt0 rfl) (x_lss rfl rfl) rfl rfl fun a_349 HE350 => ?_
      refine wpList_nil ?_
      clear HH10 a_337 HE338 HH339 a_340 HE341 a_343 HE344 a_345 HE346 a_347 HE348
      refine nrm ?_
      refine cnd_d HE350 rfl (fun hc79 => ?_) (fun hc79 => ?_)
      · refine wp_skip ?_
        refine nrm ?_
        refine wp_seq ?_
        refine wp_block ?_
        refine wp_seq ?_
        refine rg ?_
        refine pl_x HE350 HH342 (wt0 rfl) (x_move rfl) rfl rfl fun a_351 HE352 => ?_
        refine pl_x HE352 HH342 (wt0 rfl) (x_move rfl) rfl rfl fun a_353 HE354 => ?_
        refine pl_x HE354 HH342 (wt0 rfl) (x_move rfl) rfl rfl fun a_355 HE356 => ?_
        have ke80 : i < (List.length (bfsI a0 i)) := by omega
        obtain ⟨be80, rfl⟩ := el_vec HH342 (i := 0) rfl ke80
        refine pl_x HE356 HH342 (wt0 rfl) (x_indexAddr ts_37 rfl rfl rfl rfl ke80) rfl rfl fun a_357 HE358 => ?_
        obtain ⟨y81, xy81⟩ : ∃ y_, y_ = (bfsI a0 i)[i]'(by first | exact ke80 | (simp only [List.length_set]; exact ke80) | omega | (simp only [List.length_set]; omega) | (simp; omega)) := ⟨_, rfl⟩
        have iy81 : I64 y81 := by rw [xy81]; exact i_vecI HH342 0 rfl _
        have jy81 := iy81; unfold I64 at jy81
        have hby81 := (bfsI_good hnn i).rng y81 (by rw [xy81]; exact List.getElem_mem _)
        refine pl_x HE358 HH342 (wt0 rfl) (x_load1 tv_2 rfl (c_vecV 0 rfl (by first | exact ke80 | (simp only [List.length_set]; exact ke80) | omega | (simp only [List.length_set]; omega) | (simp; omega)) xy81.symm)) rfl rfl fun a_359 HE360 => ?_
        have ke82 : (y81).toNat < a0.length := by omega
        obtain ⟨be82, fe82, ese82, Ae82, Re82, De82⟩ := el_old h0 ke82
        obtain ⟨e82, xe82⟩ : ∃ x_, x_ = a0[(y81).toNat] := ⟨_, rfl⟩
        rw [← xe82] at Re82
        have Qe82 := Re82
        obtain ⟨rfl, ge82_0, ge82_1, ge82_2, ge82_3⟩ := shape_Instr Re82
        have je82_0 := ge82_0; unfold I64 at je82_0
        have je82_1 := ge82_1; unfold I64 at je82_1
        have je82_2 := ge82_2; unfold I64 at je82_2
        have je82_3 := ge82_3; unfold I64 at je82_3
        have hge82 : a0[(y81).toNat]?.getD default = e82 := by rw [List.getElem?_eq_getElem ke82, xe82]; rfl
        have hve82 := (validProg_okP s0).2 e82 (by rw [xe82]; exact List.getElem_mem _)
        refine pl_x HE360 HH342 (wt0 rfl) (x_indexAddr ts_36 rfl rfl Ae82 (by omega) ke82) rfl rfl fun a_361 HE362 => ?_
        refine pl_x HE362 HH342 (wt0 rfl) (x_loadN (cs := [.int .i64 (e82.1), .int .i64 (e82.2.1), .int .i64 (e82.2.2.1), .int .i64 (e82.2.2.2)]) tv_81 rfl rfl (c_oldN De82)) rfl rfl fun a_363 HE364 => ?_
        refine pl fun K_365 hK366 => ?_
        refine st_alloc HE364 HH342 tv_81 (wt0 rfl) rfl fun q83 a_367 w' HE368 HH369 => hK366 _ _ ?_
        refine pl fun K_370 hK371 => ?_
        refine st_store (vs := [.int .i64 (e82.1), .int .i64 (e82.2.1), .int .i64 (e82.2.2.1), .int .i64 (e82.2.2.2)]) 0 HE368 HH369 tv_81 rfl rfl rfl rfl rfl rfl (by simp [Value.oneCell']) (wt0 rfl) fun w' HH372 => hK371 _ _ ?_
        refine wpList_nil ?_
        clear a_349 HE350 a_351 HE352 a_353 HE354 a_355 HE356 a_357 HE358 a_359 HE360 a_361 HE362 a_363 HE364 HH342 K_365 hK366 HH369 hK371 K_370
        refine nrm ?_
        refine wp_seq ?_
        refine rg ?_
        refine pl_x HE368 HH372 (wt0 rfl) (x_fieldAddr fa_81_2 rfl) rfl rfl fun a_373 HE374 => ?_
        refine pl_x HE374 HH372 (wt0 rfl) (x_load1 tv_2 rfl (c_blk 0 rfl rfl)) rfl rfl fun a_375 HE376 => ?_
        refine pl fun K_377 hK378 => ?_
        refine st_lit (m := 1) (cs := [.int .i64 (e82.2.2.1)]) (e := 2) HE376 HH372 (run_lit ts_37 HE376 (vs := [.int .i64 (e82.2.2.1)]) rfl rfl (by simp [Value.cells]) rfl (by decide)) (wt0 rfl) rfl rfl fun q84 a_379 w' HE380 HH381 => hK378 _ _ ?_
        refine pl_x HE380 HH381 (wt0 rfl) (x_assign rfl) rfl rfl fun a_382 HE383 => ?_
        refine wpList_nil ?_
        clear a_367 HE368 a_373 HE374 a_375 HE376 HH372 a_379 HE380 hK378 K_377
        refine nrm ?_
        refine wp_seq ?_
        refine wp_seq ?_
        refine rg ?_
        refine pl_x HE383 HH381 (wt0 rfl) (x_fieldAddr fa_81_0 rfl) rfl rfl fun a_384 HE385 => ?_
        refine pl_x HE385 HH381 (wt0 rfl) (x_load1 tv_2 rfl (c_blk 1 rfl rfl)) rfl rfl fun a_386 HE387 => ?_
        refine pl_x HE387 HH381 (wt0 rfl) (x_eql rfl rfl) rfl rfl fun a_388 HE389 => ?_
        refine wpList_nil ?_
        clear a_382 HE383 a_384 HE385 a_386 HE387
        refine nrm ?_
        refine cnd_e HE389 rfl (fun hc85 => ?_) (fun hc85 => ?_)
        · refine rg ?_
          refine pl_x HE389 HH381 (wt0 rfl) (x_move rfl) rfl rfl fun a_390 HE391 => ?_
          refine pl_x HE391 HH381 (wt0 rfl) (x_fieldAddr fa_81_3 rfl) rfl rfl fun a_392 HE393 => ?_
          refine pl_x HE393 HH381 (wt0 rfl) (x_load1 tv_2 rfl (c_blk 1 rfl rfl)) rfl rfl fun a_394 HE395 => ?_
          refine pl fun K_396 hK397 => ?_
          refine st_lit (m := 1) (cs := [.int .i64 (e82.2.2.2)]) (e := 2) HE395 HH381 (run_lit ts_37 HE395 (vs := [.int .i64 (e82.2.2.2)]) rfl rfl (by simp [Value.cells]) rfl (by decide)) (wt0 rfl) rfl rfl fun q86 a_398 w' HE399 HH400 => hK397 _ _ ?_
          refine pl fun K_401 hK402 => ?_
          have HH403 := HH400.sel [1, 0, 2, 3] (by decide) rfl
          have HH404 := Held.vecFlat (E := eInt) (xs := [e82.2.2.1]) (css := [[.int .i64 (e82.2.2.1)]]) HH403 rfl (by unfold maxLen; simp) (fun i x hx => by match i with | 0 => exact ⟨_, rfl, fun _ => by simp at hx; subst hx; exact (oI (by exact ⟨by omega, by omega⟩))⟩ | i + 1 => simp at hx)
          refine st_app1F e82.2.2.2 HE399 HH404 ts_37 [0, 1, 2, 3] (by decide) rfl (fun _ => (oI (by exact ⟨by omega, by omega⟩))) rfl rfl (by simp [Value.oneCell']) (by unfold maxLen; first | omega | (simp; done) | (simp; omega)) (by first | omega | (simp; done) | (simp; omega)) (wt0 rfl) rfl fun A87 c88 S89 a_405 w' HE406 HH407 => hK402 _ _ ?_
          have lA87 : List.length (([e82.2.2.1] : List Int) ++ [e82.2.2.2]) = List.length ([e82.2.2.1] : List Int) + 1 := List.length_append
          refine pl_x HE406 HH407 (wt0 rfl) (x_assign rfl) rfl rfl fun a_408 HE409 => ?_
          refine wpList_nil ?_
          clear a_388 HE389 a_390 HE391 a_392 HE393 a_394 HE395 HH381 K_396 hK397 HH400 HH403 a_398 HE399 HH404 a_405 HE406 hK402 K_401
          refine nrm ?_
          refine wp_seq ?_
          refine rg ?_
          refine pl_x HE409 HH407 (wt0 rfl) (x_assign rfl) rfl rfl fun a_410 HE411 => ?_
          refine wpList_nil ?_
          clear a_408 HE409
          refine nrm ?_
          refine wp_block ?_
          have hnx : nxP a0 y81 = (([e82.2.2.1] : List Int) ++ [e82.2.2.2]) := by unfold nxP; rw [hge82]; first | (rw [if_pos (by omega)]; done) | (rw [if_neg (by omega)]; done) | (rw [if_pos (by omega)]; rfl) | (rw [if_neg (by omega)]; rfl)
          have hby : (bfsI a0 i)[i]? = some y81 := by rw [xy81]; exact List.getElem?_eq_getElem _
          have hnl := nxP_len a0 y81
          have hnxl : (nxP a0 y81).length = (([e82.2.2.1] : List Int) ++ [e82.2.2.2]).length := by first | (rw [hnx]; done) | (rw [hnx]; rfl)
          refine lp (fun m a w' => ∃ (k : Nat) (A_3 : Option Addr) (c_3 : Nat) (S_3 : Nat → Prop), m = (nxP a0 y81).length - k ∧ Env 70 [(3, .slice A_3 (List.length (((nxP a0 y81).take k).foldl (addI (a0.length : Int)) (bfsI a0 i))) c_3), (7, .int .i64 (k : Int)), (0, .slice A0 (a0.length) c0), (4, .int .i64 ((i : Int))), (6, .slice A87 ((([e82.2.2.1] : List Int) ++ [e82.2.2.2]).length) c88)] a ∧ Held Nob w [rVec eInt 2 S_3 A_3 c_3 (((nxP a0 y81).take k).foldl (addI (a0.length : Int)) (bfsI a0 i)), rVec eInt 2 S89 A87 c88 (([e82.2.2.1] : List Int) ++ [e82.2.2.2]), rBlk q83 81 [.int .i64 (e82.1), .int .i64 (e82.2.1), .int .i64 (e82.2.2.1), .int .i64 (e82.2.2.2)]] w' ∧ (k ≤ (nxP a0 y81).length)) ((nxP a0 y81).length - (0)) ?_ ?_
          · have E90 : ((nxP a0 y81).take 0).foldl (addI (a0.length : Int)) (bfsI a0 i) = bfsI a0 i := by
              rfl
            exact ⟨0, (some ⟨be80, 0, none⟩), c_3, S_3, rfl, HE411.sub ⟨(by rw [E90]; rfl), (lkI rfl (by first | rfl | omega | (simp [hc22, p78_0, hc79, xy81, xe82, hc85]; done))), rfl, rfl, rfl, trivial⟩, ((HH407.sel [2, 0, 1] (by decide) rfl).to (by first | rfl | (rw [E90]; done) | (rw [E90]; rfl) | (simp only [E90]; done) | (simp only [E90]; rfl) | (rw [E90]; simp only [List.length_set]; done))), (by first | omega | assumption | (simp; done) | simp_all)⟩
          · rintro m a_412 w' ⟨k, A_3, c_3, S_3, rfl, HE413, HH414, p91_0⟩
            have hgq := (bfsI_fold hnn hby k).len
            have hle := addsI_len (a0.length : Int) ((nxP a0 y81).take k) (bfsI a0 i)
            refine wp_seq ?_
            refine wp_seq ?_
            refine rg ?_
            refine pl_x HE413 HH414 (wt0 rfl) (x_move rfl) rfl rfl fun a_415 HE416 => ?_
            refine pl_x HE416 HH414 (wt0 rfl) (x_move rfl) rfl rfl fun a_417 HE418 => ?_
            refine pl_x HE418 HH414 (wt0 rfl) (x_len Try.underlying37 rfl) rfl rfl fun a_419 HE420 => ?_
            refine pl_x HE420 HH414 (wt0 rfl) (x_lss rfl rfl) rfl rfl fun a_421 HE422 => ?_
            refine wpList_nil ?_
            clear a_410 HE411 HH407 a_412 HE413 a_415 HE416 a_417 HE418 a_419 HE420
            refine nrm ?_
            refine cnd_d HE422 rfl (fun hc92 => ?_) (fun hc92 => ?_)
            · refine wp_skip ?_
              refine nrm ?_
              refine wp_seq ?_
              refine wp_block ?_
              refine wp_seq ?_
              refine rg ?_
              refine pl_x HE422 HH414 (wt0 rfl) (x_move rfl) rfl rfl fun a_423 HE424 => ?_
              refine pl_x HE424 HH414 (wt0 rfl) (x_move rfl) rfl rfl fun a_425 HE426 => ?_
              have ke93 : k < (([e82.2.2.1] : List Int) ++ [e82.2.2.2]).length := by omega
              obtain ⟨be93, rfl⟩ := el_vec HH414 (i := 1) rfl ke93
              refine pl_x HE426 HH414 (wt0 rfl) (x_indexAddr ts_37 rfl rfl rfl rfl ke93) rfl rfl fun a_427 HE428 => ?_
              obtain ⟨y94, xy94⟩ : ∃ y_, y_ = (([e82.2.2.1] : List Int) ++ [e82.2.2.2])[k]'(by first | exact ke93 | (simp only [List.length_set]; exact ke93) | omega | (simp only [List.length_set]; omega) | (simp; omega)) := ⟨_, rfl⟩
              have iy94 : I64 y94 := by rw [xy94]; exact i_vecI HH414 1 rfl _
              have jy94 := iy94; unfold I64 at jy94
              refine pl_x HE428 HH414 (wt0 rfl) (x_load1 tv_2 rfl (c_vecV 1 rfl (by first | exact ke93 | (simp only [List.length_set]; exact ke93) | omega | (simp only [List.length_set]; omega) | (simp; omega)) xy94.symm)) rfl rfl fun a_429 HE430 => ?_
              refine pl_x HE430 HH414 (wt0 rfl) (x_move rfl) rfl rfl fun a_431 HE432 => ?_
              refine pl_x HE432 HH414 (wt0 rfl) (x_len Try.underlying36 rfl) rfl rfl fun a_433 HE434 => ?_
              refine pl_x HE434 HH414 (wt0 rfl) (x_lss rfl rfl) rfl rfl fun a_435 HE436 => ?_
              refine pl_x HE436 HH414 (wt0 rfl) (x_move rfl) rfl rfl fun a_437 HE438 => ?_
              by_cases hc95 : y94 < (a0.length : Int)
              · refine pl_x HE438 HH414 (wtT HE438 rfl rfl rfl (decide_eq_true hc95)) (x_move rfl) rfl rfl fun a_439 HE440 => ?_
                refine pl_x HE440 HH414 (wtT HE440 rfl rfl rfl (decide_eq_true hc95)) (x_move rfl) rfl rfl fun a_441 HE442 => ?_
                refine pl_x HE442 HH414 (wtT HE442 rfl rfl rfl (decide_eq_true hc95)) (x_move rfl) rfl rfl fun a_443 HE444 => ?_
                have ke96 : k < (([e82.2.2.1] : List Int) ++ [e82.2.2.2]).length := by omega
                refine pl_x HE444 HH414 (wtT HE444 rfl rfl rfl (decide_eq_true hc95)) (x_indexAddr ts_37 rfl rfl rfl rfl ke96) rfl rfl fun a_445 HE446 => ?_
                refine pl_x HE446 HH414 (wtT HE446 rfl rfl rfl (decide_eq_true hc95)) (x_load1 tv_2 rfl (c_vecV 1 rfl (by first | exact ke96 | (simp only [List.length_set]; exact ke96) | omega | (simp only [List.length_set]; omega) | (simp; omega)) xy94.symm)) rfl rfl fun a_447 HE448 => ?_
                refine pl fun K_449 hK450 => ?_
                refine st_call HE448 (wtT HE448 rfl rfl rfl (decide_eq_true hc95)) rfl rfl rfl en_87 rfl rfl (spec_l00Has _ _ (((nxP a0 y81).take k).foldl (addI (a0.length : Int)) (bfsI a0 i)) y94 _ (HH414.vecSl (i := 0) rfl)) fun e w' hr => ?_
                obtain ⟨rfl, hbr97⟩ := hr
                have HH451 := HH414.on hbr97
                refine ⟨_, rfl, fun a_452 HE453 => hK450 _ _ ?_⟩
                refine pl_x HE453 HH451 (wtT HE453 rfl rfl rfl (decide_eq_true hc95)) (x_not rfl) rfl rfl fun a_454 HE455 => ?_
                refine pl_x HE455 HH451 (wt0 rfl) (x_pickT rfl (decide_eq_true hc95) rfl) rfl rfl fun a_456 HE457 => ?_
                refine wpList_nil ?_
                clear a_421 HE422 a_423 HE424 a_425 HE426 a_427 HE428 a_429 HE430 a_431 HE432 a_433 HE434 a_435 HE436 a_437 HE438 a_439 HE440 a_441 HE442 a_443 HE444 a_445 HE446 HH414 a_447 HE448 a_452 HE453 a_454 HE455 hK450 K_449
                refine nrm ?_
                refine cnd_nb HE457 rfl (fun hc98 => ?_) (fun hc98 => ?_)
                · refine rg ?_
                  refine pl_x HE457 HH451 (wt0 rfl) (x_move rfl) rfl rfl fun a_458 HE459 => ?_
                  refine pl_x HE459 HH451 (wt0 rfl) (x_move rfl) rfl rfl fun a_460 HE461 => ?_
                  refine pl_x HE461 HH451 (wt0 rfl) (x_move rfl) rfl rfl fun a_462 HE463 => ?_
                  have ke99 : k < (([e82.2.2.1] : List Int) ++ [e82.2.2.2]).length := by omega
                  refine pl_x HE463 HH451 (wt0 rfl) (x_indexAddr ts_37 rfl rfl rfl rfl ke99) rfl rfl fun a_464 HE465 => ?_
                  refine pl_x HE465 HH451 (wt0 rfl) (x_load1 tv_2 rfl (c_vecV 1 rfl (by first | exact ke99 | (simp only [List.length_set]; exact ke99) | omega | (simp only [List.length_set]; omega) | (simp; omega)) xy94.symm)) rfl rfl fun a_466 HE467 => ?_
                  refine pl fun K_468 hK469 => ?_
                  refine st_lit (m := 1) (cs := [.int .i64 (y94)]) (e := 2) HE467 HH451 (run_lit ts_37 HE467 (vs := [.int .i64 (y94)]) rfl rfl (by simp [Value.cells]) rfl (by decide)) (wt0 rfl) rfl rfl fun q100 a_470 w' HE471 HH472 => hK469 _ _ ?_
                  refine pl fun K_473 hK474 => ?_
                  refine st_app1F y94 HE471 HH472 ts_37 [1, 0, 2, 3] (by decide) rfl (fun _ => (oI (by exact ⟨by omega, by omega⟩))) rfl rfl (by simp [Value.oneCell']) (by unfold maxLen; first | omega | (simp; done) | (simp; omega)) (by first | omega | (simp; done) | (simp; omega)) (wt0 rfl) rfl fun A101 c102 S103 a_475 w' HE476 HH477 => hK474 _ _ ?_
                  have lA101 : List.length (((nxP a0 y81).take k).foldl (addI (a0.length : Int)) (bfsI a0 i) ++ [y94]) = List.length (((nxP a0 y81).take k).foldl (addI (a0.length : Int)) (bfsI a0 i)) + 1 := List.length_append
                  refine pl_x HE476 HH477 (wt0 rfl) (x_assign rfl) rfl rfl fun a_478 HE479 => ?_
                  refine wpList_nil ?_
                  clear a_456 HE457 a_458 HE459 a_460 HE461 a_462 HE463 a_464 HE465 a_466 HE467 HH451 K_468 hK469 a_470 HE471 HH472 a_475 HE476 hK474 K_473
                  refine blk_n ?_
                  refine nrm ?_
                  refine rg ?_
                  refine pl_x HE479 HH477 (wt0 rfl) (x_move rfl) rfl rfl fun a_480 HE481 => ?_
                  refine pl_x HE481 HH477 (wt0 rfl) (x_add rfl rfl (by exact ⟨by omega, by omega⟩)) rfl rfl fun a_482 HE483 => ?_
                  refine pl_x HE483 HH477 (wt0 rfl) (x_assign rfl) rfl rfl fun a_484 HE485 => ?_
                  refine wpList_nil ?_
                  clear a_478 HE479 a_480 HE481 a_482 HE483
                  have E104 : ((nxP a0 y81).take (k + 1)).foldl (addI (a0.length : Int)) (bfsI a0 i) = (((nxP a0 y81).take k).foldl (addI (a0.length : Int)) (bfsI a0 i) ++ [y94]) := by
                    have hq : (nxP a0 y81)[k]? = some y94 := by rw [hnx, xy94]; exact List.getElem?_eq_getElem _
                    rw [take_snocI hq, List.foldl_append]; show addI _ _ _ = _; first | exact addI_hit (by omega) (by assumption) | exact addI_miss (.inl (by omega)) | exact addI_miss (.inr (by assumption))
                  exact nrm ⟨(nxP a0 y81).length - (k + 1), (by omega), k + 1, A101, c102, S103, rfl, HE485.sub ⟨(by rw [E104]; rfl), (lkI rfl (by first | rfl | omega | (simp [hc22, p78_0, hc79, xy81, xe82, hc85, p91_0, hc92, xy94, hc95, hc98]; done))), rfl, rfl, rfl, trivial⟩, ((HH477.sel [0, 1, 2] (by decide) rfl).to (by first | rfl | (rw [E104]; done) | (rw [E104]; rfl) | (simp only [E104]; done) | (simp only [E104]; rfl) | (rw [E104]; simp only [List.length_set]; done))), (by first | omega | assumption | (simp; done) | simp_all)⟩
                · refine wp_skip ?_
                  refine blk_n ?_
                  refine nrm ?_
                  refine rg ?_
                  refine pl_x HE457 HH451 (wt0 rfl) (x_move rfl) rfl rfl fun a_486 HE487 => ?_
                  refine pl_x HE487 HH451 (wt0 rfl) (x_add rfl rfl (by exact ⟨by omega, by omega⟩)) rfl rfl fun a_488 HE489 => ?_
                  refine pl_x HE489 HH451 (wt0 rfl) (x_assign rfl) rfl rfl fun a_490 HE491 => ?_
                  refine wpList_nil ?_
                  clear a_456 HE457 a_486 HE487 a_488 HE489
                  have E105 : ((nxP a0 y81).take (k + 1)).foldl (addI (a0.length : Int)) (bfsI a0 i) = ((nxP a0 y81).take k).foldl (addI (a0.length : Int)) (bfsI a0 i) := by
                    have hq : (nxP a0 y81)[k]? = some y94 := by rw [hnx, xy94]; exact List.getElem?_eq_getElem _
                    rw [take_snocI hq, List.foldl_append]; show addI _ _ _ = _; first | exact addI_hit (by omega) (by assumption) | exact addI_miss (.inl (by omega)) | exact addI_miss (.inr (by assumption))
                  exact nrm ⟨(nxP a0 y81).length - (k + 1), (by omega), k + 1, A_3, c_3, S_3, rfl, HE491.sub ⟨(by rw [E105]; rfl), (lkI rfl (by first | rfl | omega | (simp [hc22, p78_0, hc79, xy81, xe82, hc85, p91_0, hc92, xy94, hc95, hc98]; done))), rfl, rfl, rfl, trivial⟩, ((HH451.sel [0, 1, 2] (by decide) rfl).to (by first | rfl | (rw [E105]; done) | (rw [E105]; rfl) | (simp only [E105]; done) | (simp only [E105]; rfl) | (rw [E105]; simp only [List.length_set]; done))), (by first | omega | assumption | (simp; done) | simp_all)⟩
              · refine pl_no HE438 (wtF HE438 rfl rfl rfl (decide_eq_false hc95)) rfl rfl fun a_492 HE493 => ?_
                refine pl_no HE493 (wtF HE493 rfl rfl rfl (decide_eq_false hc95)) rfl rfl fun a_494 HE495 => ?_
                refine pl_no HE495 (wtF HE495 rfl rfl rfl (decide_eq_false hc95)) rfl rfl fun a_496 HE497 => ?_
                refine pl_no HE497 (wtF HE497 rfl rfl rfl (decide_eq_false hc95)) rfl rfl fun a_498 HE499 => ?_
                refine pl_no HE499 (wtF HE499 rfl rfl rfl (decide_eq_false hc95)) rfl rfl fun a_500 HE501 => ?_
                refine pl_no HE501 (wtF HE501 rfl rfl rfl (decide_eq_false hc95)) rfl rfl fun a_502 HE503 => ?_
                refine pl_no HE503 (wtF HE503 rfl rfl rfl (decide_eq_false hc95)) rfl rfl fun a_504 HE505 => ?_
                refine pl_x HE505 HH414 (wt0 rfl) (x_pickF rfl (decide_eq_false hc95) rfl) rfl rfl fun a_506 HE507 => ?_
                refine wpList_nil ?_
                clear a_421 HE422 a_423 HE424 a_425 HE426 a_427 HE428 a_429 HE430 a_431 HE432 a_433 HE434 a_435 HE436 a_437 HE438 a_492 HE493 a_494 HE495 a_496 HE497 a_498 HE499 a_500 HE501 a_502 HE503 a_504 HE505
                refine nrm ?_
                refine cndF HE507 rfl rfl ?_
                refine wp_skip ?_
                refine blk_n ?_
                refine nrm ?_
                refine rg ?_
                refine pl_x HE507 HH414 (wt0 rfl) (x_move rfl) rfl rfl fun a_508 HE509 => ?_
                refine pl_x HE509 HH414 (wt0 rfl) (x_add rfl rfl (by exact ⟨by omega, by omega⟩)) rfl rfl fun a_510 HE511 => ?_
                refine pl_x HE511 HH414 (wt0 rfl) (x_assign rfl) rfl rfl fun a_512 HE513 => ?_
                refine wpList_nil ?_
                clear a_506 HE507 a_508 HE509 a_510 HE511
                have E106 : ((nxP a0 y81).take (k + 1)).foldl (addI (a0.length : Int)) (bfsI a0 i) = ((nxP a0 y81).take k).foldl (addI (a0.length : Int)) (bfsI a0 i) := by
                  have hq : (nxP a0 y81)[k]? = some y94 := by rw [hnx, xy94]; exact List.getElem?_eq_getElem _
                  rw [take_snocI hq, List.foldl_append]; show addI _ _ _ = _; first | exact addI_hit (by omega) (by assumption) | exact addI_miss (.inl (by omega)) | exact addI_miss (.inr (by assumption))
                exact nrm ⟨(nxP a0 y81).length - (k + 1), (by omega), k + 1, A_3, c_3, S_3, rfl, HE513.sub ⟨(by rw [E106]; rfl), (lkI rfl (by first | rfl | omega | (simp [hc22, p78_0, hc79, xy81, xe82, hc85, p91_0, hc92, xy94, hc95]; done))), rfl, rfl, rfl, trivial⟩, ((HH414.sel [0, 1, 2] (by decide) rfl).to (by first | rfl | (rw [E106]; done) | (rw [E106]; rfl) | (simp only [E106]; done) | (simp only [E106]; rfl) | (rw [E106]; simp only [List.length_set]; done))), (by first | omega | assumption | (simp; done) | simp_all)⟩
            · refine wp_exit ?_
              refine (thn_exit (thn_exit (blk_hit ?_)))
              refine blk_n ?_
              refine nrm ?_
              refine rg ?_
              refine pl_x HE422 HH414 (wt0 rfl) (x_move rfl) rfl rfl fun a_514 HE515 => ?_
              refine pl_x HE515 HH414 (wt0 rfl) (x_add rfl rfl (by exact ⟨by omega, by omega⟩)) rfl rfl fun a_516 HE517 => ?_
              refine pl_x HE517 HH414 (wt0 rfl) (x_assign rfl) rfl rfl fun a_518 HE519 => ?_
              refine wpList_nil ?_
              clear a_421 HE422 a_514 HE515 a_516 HE517
              have E107 : bfsI a0 (i + 1) = ((nxP a0 y81).take k).foldl (addI (a0.length : Int)) (bfsI a0 i) := by
                exact bfsI_next hby (by omega)
              exact nrm ⟨a0.length - (i + 1), (by omega), i + 1, A_3, c_3, S_3, rfl, HE519.sub ⟨(by rw [E107]; rfl), (lkI rfl (by first | rfl | omega | (simp [hc22, p78_0, hc79, xy81, xe82, hc85, p91_0, hc92]; done))), rfl, trivial⟩, ((HH414.sel [0] (by decide) rfl).to (by first | rfl | (rw [E107]; done) | (rw [E107]; rfl) | (simp only [E107]; done) | (simp only [E107]; rfl) | (rw [E107]; simp only [List.length_set]; done))), (by rw [bfsI_next hby (k := k) (by omega)]; omega)⟩
        · refine wp_skip ?_
          refine nrm ?_
          refine wp_seq ?_
          refine rg ?_
          refine pl_x HE389 HH381 (wt0 rfl) (x_assign rfl) rfl rfl fun a_520 HE521 => ?_
          refine wpList_nil ?_
          clear a_388 HE389
          refine nrm ?_
          refine wp_block ?_
          have HH522 := Held.vecFlat (E := eInt) (xs := [e82.2.2.1]) (css := [[.int .i64 (e82.2.2.1)]]) HH381 rfl (by unfold maxLen; simp) (fun i x hx => by match i with | 0 => exact ⟨_, rfl, fun _ => by simp at hx; subst hx; exact (oI (by exact ⟨by omega, by omega⟩))⟩ | i + 1 => simp at hx)
          have hnx : nxP a0 y81 = ([e82.2.2.1] : List Int) := by unfold nxP; rw [hge82]; first | (rw [if_pos (by omega)]; done) | (rw [if_neg (by omega)]; done) | (rw [if_pos (by omega)]; rfl) | (rw [if_neg (by omega)]; rfl)
          have hby : (bfsI a0 i)[i]? = some y81 := by rw [xy81]; exact List.getElem?_eq_getElem _
          have hnl := nxP_len a0 y81
          have hnxl : (nxP a0 y81).length = 1 := by first | (rw [hnx]; done) | (rw [hnx]; rfl)
          refine lp (fun m a w' => ∃ (k : Nat) (A_3 : Option Addr) (c_3 : Nat) (S_3 : Nat → Prop), m = (nxP a0 y81).length - k ∧ Env 70 [(3, .slice A_3 (List.length (((nxP a0 y81).take k).foldl (addI (a0.length : Int)) (bfsI a0 i))) c_3), (7, .int .i64 (k : Int)), (0, .slice A0 (a0.length) c0), (4, .int .i64 ((i : Int))), (6, .slice (some ⟨q84, 0, none⟩) (1) 1)] a ∧ Held Nob w [rVec eInt 2 S_3 A_3 c_3 (((nxP a0 y81).take k).foldl (addI (a0.length : Int)) (bfsI a0 i)), rVec eInt 2 (fun b => b = q84) (some ⟨q84, 0, none⟩) (List.length (α := Int) [e82.2.2.1]) ([e82.2.2.1] : List Int), rBlk q83 81 [.int .i64 (e82.1), .int .i64 (e82.2.1), .int .i64 (e82.2.2.1), .int .i64 (e82.2.2.2)]] w' ∧ (k ≤ (nxP a0 y81).length)) ((nxP a0 y81).length - (0)) ?_ ?_
          · have E108 : ((nxP a0 y81).take 0).foldl (addI (a0.length : Int)) (bfsI a0 i) = bfsI a0 i := by
              rfl
            exact ⟨0, (some ⟨be80, 0, none⟩), c_3, S_3, rfl, HE521.sub ⟨(by rw [E108]; rfl), (lkI rfl (by first | rfl | omega | (simp [hc22, p78_0, hc79, xy81, xe82, hc85]; done))), rfl, rfl, rfl, trivial⟩, ((HH522.sel [2, 0, 1] (by decide) rfl).to (by first | rfl | (rw [E108]; done) | (rw [E108]; rfl) | (simp only [E108]; done) | (simp only [E108]; rfl) | (rw [E108]; simp only [List.length_set]; done))), (by first | omega | assumption | (simp; done) | simp_all)⟩
          · rintro m a_523 w' ⟨k, A_3, c_3, S_3, rfl, HE524, HH525, p109_0⟩
            have hgq := (bfsI_fold hnn hby k).len
            have hle := addsI_len (a0.length : Int) ((nxP a0 y81).take k) (bfsI a0 i)
            refine wp_seq ?_
            refine wp_seq ?_
            refine rg ?_
            refine pl_x HE524 HH525 (wt0 rfl) (x_move rfl) rfl rfl fun a_526 HE527 => ?_
            refine pl_x HE527 HH525 (wt0 rfl) (x_move rfl) rfl rfl fun a_528 HE529 => ?_
            refine pl_x HE529 HH525 (wt0 rfl) (x_len Try.underlying37 rfl) rfl rfl fun a_530 HE531 => ?_
            refine pl_x HE531 HH525 (wt0 rfl) (x_lss rfl rfl) rfl rfl fun a_532 HE533 => ?_
            refine wpList_nil ?_
            clear HH381 a_520 HE521 HH522 a_523 HE524 a_526 HE527 a_528 HE529 a_530 HE531
            refine nrm ?_
            refine cnd_d HE533 rfl (fun hc110 => ?_) (fun hc110 => ?_)
            · refine wp_skip ?_
              refine nrm ?_
              refine wp_seq ?_
              refine wp_block ?_
              refine wp_seq ?_
              refine rg ?_
              refine pl_x HE533 HH525 (wt0 rfl) (x_move rfl) rfl rfl fun a_534 HE535 => ?_
              refine pl_x HE535 HH525 (wt0 rfl) (x_move rfl) rfl rfl fun a_536 HE537 => ?_
              have ke111 : k < 1 := by omega
              refine pl_x HE537 HH525 (wt0 rfl) (x_indexAddr ts_37 rfl rfl rfl rfl ke111) rfl rfl fun a_538 HE539 => ?_
              obtain ⟨y112, xy112⟩ : ∃ y_, y_ = ([e82.2.2.1] : List Int)[k]'(by first | exact ke111 | (simp only [List.length_set]; exact ke111) | omega | (simp only [List.length_set]; omega) | (simp; omega)) := ⟨_, rfl⟩
              have iy112 : I64 y112 := by rw [xy112]; exact i_vecI HH525 1 rfl _
              have jy112 := iy112; unfold I64 at jy112
              refine pl_x HE539 HH525 (wt0 rfl) (x_load1 tv_2 rfl (c_vecV 1 rfl (by first | exact ke111 | (simp only [List.length_set]; exact ke111) | omega | (simp only [List.length_set]; omega) | (simp; omega)) xy112.symm)) rfl rfl fun a_540 HE541 => ?_
              refine pl_x HE541 HH525 (wt0 rfl) (x_move rfl) rfl rfl fun a_542 HE543 => ?_
              refine pl_x HE543 HH525 (wt0 rfl) (x_len Try.underlying36 rfl) rfl rfl fun a_544 HE545 => ?_
              refine pl_x HE545 HH525 (wt0 rfl) (x_lss rfl rfl) rfl rfl fun a_546 HE547 => ?_
              refine pl_x HE547 HH525 (wt0 rfl) (x_move rfl) rfl rfl fun a_548 HE549 => ?_
              by_cases hc113 : y112 < (a0.length : Int)
              · refine pl_x HE549 HH525 (wtT HE549 rfl rfl rfl (decide_eq_true hc113)) (x_move rfl) rfl rfl fun a_550 HE551 => ?_
                refine pl_x HE551 HH525 (wtT HE551 rfl rfl rfl (decide_eq_true hc113)) (x_move rfl) rfl rfl fun a_552 HE553 => ?_
                refine pl_x HE553 HH525 (wtT HE553 rfl rfl rfl (decide_eq_true hc113)) (x_move rfl) rfl rfl fun a_554 HE555 => ?_
                have ke114 : k < 1 := by omega
                refine pl_x HE555 HH525 (wtT HE555 rfl rfl rfl (decide_eq_true hc113)) (x_indexAddr ts_37 rfl rfl rfl rfl ke114) rfl rfl fun a_556 HE557 => ?_
                refine pl_x HE557 HH525 (wtT HE557 rfl rfl rfl (decide_eq_true hc113)) (x_load1 tv_2 rfl (c_vecV 1 rfl (by first | exact ke114 | (simp only [List.length_set]; exact ke114) | omega | (simp only [List.length_set]; omega) | (simp; omega)) xy112.symm)) rfl rfl fun a_558 HE559 => ?_
                refine pl fun K_560 hK561 => ?_
                refine st_call HE559 (wtT HE559 rfl rfl rfl (decide_eq_true hc113)) rfl rfl rfl en_87 rfl rfl (spec_l00Has _ _ (((nxP a0 y81).take k).foldl (addI (a0.length : Int)) (bfsI a0 i)) y112 _ (HH525.vecSl (i := 0) rfl)) fun e w' hr => ?_
                obtain ⟨rfl, hbr115⟩ := hr
                have HH562 := HH525.on hbr115
                refine ⟨_, rfl, fun a_563 HE564 => hK561 _ _ ?_⟩
                refine pl_x HE564 HH562 (wtT HE564 rfl rfl rfl (decide_eq_true hc113)) (x_not rfl) rfl rfl fun a_565 HE566 => ?_
                refine pl_x HE566 HH562 (wt0 rfl) (x_pickT rfl (decide_eq_true hc113) rfl) rfl rfl fun a_567 HE568 => ?_
                refine wpList_nil ?_
                clear a_532 HE533 a_534 HE535 a_536 HE537 a_538 HE539 a_540 HE541 a_542 HE543 a_544 HE545 a_546 HE547 a_548 HE549 a_550 HE551 a_552 HE553 a_554 HE555 a_556 HE557 HH525 a_558 HE559 a_563 HE564 a_565 HE566 hK561 K_560
                refine nrm ?_
                refine cnd_nb HE568 rfl (fun hc116 => ?_) (fun hc116 => ?_)
                · refine rg ?_
                  refine pl_x HE568 HH562 (wt0 rfl) (x_move rfl) rfl rfl fun a_569 HE570 => ?_
                  refine pl_x HE570 HH562 (wt0 rfl) (x_move rfl) rfl rfl fun a_571 HE572 => ?_
                  refine pl_x HE572 HH562 (wt0 rfl) (x_move rfl) rfl rfl fun a_573 HE574 => ?_
                  have ke117 : k < 1 := by omega
                  refine pl_x HE574 HH562 (wt0 rfl) (x_indexAddr ts_37 rfl rfl rfl rfl ke117) rfl rfl fun a_575 HE576 => ?_
                  refine pl_x HE576 HH562 (wt0 rfl) (x_load1 tv_2 rfl (c_vecV 1 rfl (by first | exact ke117 | (simp only [List.length_set]; exact ke117) | omega | (simp only [List.length_set]; omega) | (simp; omega)) xy112.symm)) rfl rfl fun a_577 HE578 => ?_
                  refine pl fun K_579 hK580 => ?_
                  refine st_lit (m := 1) (cs := [.int .i64 (y112)]) (e := 2) HE578 HH562 (run_lit ts_37 HE578 (vs := [.int .i64 (y112)]) rfl rfl (by simp [Value.cells]) rfl (by decide)) (wt0 rfl) rfl rfl fun q118 a_581 w' HE582 HH583 => hK580 _ _ ?_
                  refine pl fun K_584 hK585 => ?_
                  refine st_app1F y112 HE582 HH583 ts_37 [1, 0, 2, 3] (by decide) rfl (fun _ => (oI (by exact ⟨by omega, by omega⟩))) rfl rfl (by simp [Value.oneCell']) (by unfold maxLen; first | omega | (simp; done) | (simp; omega)) (by first | omega | (simp; done) | (simp; omega)) (wt0 rfl) rfl fun A119 c120 S121 a_586 w' HE587 HH588 => hK585 _ _ ?_
                  have lA119 : List.length (((nxP a0 y81).take k).foldl (addI (a0.length : Int)) (bfsI a0 i) ++ [y112]) = List.length (((nxP a0 y81).take k).foldl (addI (a0.length : Int)) (bfsI a0 i)) + 1 := List.length_append
                  refine pl_x HE587 HH588 (wt0 rfl) (x_assign rfl) rfl rfl fun a_589 HE590 => ?_
                  refine wpList_nil ?_
                  clear a_567 HE568 a_569 HE570 a_571 HE572 a_573 HE574 a_575 HE576 a_577 HE578 HH562 K_579 hK580 a_581 HE582 HH583 a_586 HE587 hK585 K_584
                  refine blk_n ?_
                  refine nrm ?_
                  refine rg ?_
                  refine pl_x HE590 HH588 (wt0 rfl) (x_move rfl) rfl rfl fun a_591 HE592 => ?_
                  refine pl_x HE592 HH588 (wt0 rfl) (x_add rfl rfl (by exact ⟨by omega, by omega⟩)) rfl rfl fun a_593 HE594 => ?_
                  refine pl_x HE594 HH588 (wt0 rfl) (x_assign rfl) rfl rfl fun a_595 HE596 => ?_
                  refine wpList_nil ?_
                  clear a_589 HE590 a_591 HE592 a_593 HE594
                  have E122 : ((nxP a0 y81).take (k + 1)).foldl (addI (a0.length : Int)) (bfsI a0 i) = (((nxP a0 y81).take k).foldl (addI (a0.length : Int)) (bfsI a0 i) ++ [y112]) := by
                    have hq : (nxP a0 y81)[k]? = some y112 := by rw [hnx, xy112]; exact List.getElem?_eq_getElem _
                    rw [take_snocI hq, List.foldl_append]; show addI _ _ _ = _; first | exact addI_hit (by omega) (by assumption) | exact addI_miss (.inl (by omega)) | exact addI_miss (.inr (by assumption))
                  exact nrm ⟨(nxP a0 y81).length - (k + 1), (by omega), k + 1, A119, c120, S121, rfl, HE596.sub ⟨(by rw [E122]; rfl), (lkI rfl (by first | rfl | omega | (simp [hc22, p78_0, hc79, xy81, xe82, hc85, p109_0, hc110, xy112, hc113, hc116]; done))), rfl, rfl, rfl, trivial⟩, ((HH588.sel [0, 1, 2] (by decide) rfl).to (by first | rfl | (rw [E122]; done) | (rw [E122]; rfl) | (simp only [E122]; done) | (simp only [E122]; rfl) | (rw [E122]; simp only [List.length_set]; done))), (by first | omega | assumption | (simp; done) | simp_all)⟩
                · refine wp_skip ?_
                  refine blk_n ?_
                  refine nrm ?_
                  refine rg ?_
                  refine pl_x HE568 HH562 (wt0 rfl) (x_move rfl) rfl rfl fun a_597 HE598 => ?_
                  refine pl_x HE598 HH562 (wt0 rfl) (x_add rfl rfl (by exact ⟨by omega, by omega⟩)) rfl rfl fun a_599 HE600 => ?_
                  refine pl_x HE600 HH562 (wt0 rfl) (x_assign rfl) rfl rfl fun a_601 HE602 => ?_
                  refine wpList_nil ?_
                  clear a_567 HE568 a_597 HE598 a_599 HE600
                  have E123 : ((nxP a0 y81).take (k + 1)).foldl (addI (a0.length : Int)) (bfsI a0 i) = ((nxP a0 y81).take k).foldl (addI (a0.length : Int)) (bfsI a0 i) := by
                    have hq : (nxP a0 y81)[k]? = some y112 := by rw [hnx, xy112]; exact List.getElem?_eq_getElem _
                    rw [take_snocI hq, List.foldl_append]; show addI _ _ _ = _; first | exact addI_hit (by omega) (by assumption) | exact addI_miss (.inl (by omega)) | exact addI_miss (.inr (by assumption))
                  exact nrm ⟨(nxP a0 y81).length - (k + 1), (by omega), k + 1, A_3, c_3, S_3, rfl, HE602.sub ⟨(by rw [E123]; rfl), (lkI rfl (by first | rfl | omega | (simp [hc22, p78_0, hc79, xy81, xe82, hc85, p109_0, hc110, xy112, hc113, hc116]; done))), rfl, rfl, rfl, trivial⟩, ((HH562.sel [0, 1, 2] (by decide) rfl).to (by first | rfl | (rw [E123]; done) | (rw [E123]; rfl) | (simp only [E123]; done) | (simp only [E123]; rfl) | (rw [E123]; simp only [List.length_set]; done))), (by first | omega | assumption | (simp; done) | simp_all)⟩
              · refine pl_no HE549 (wtF HE549 rfl rfl rfl (decide_eq_false hc113)) rfl rfl fun a_603 HE604 => ?_
                refine pl_no HE604 (wtF HE604 rfl rfl rfl (decide_eq_false hc113)) rfl rfl fun a_605 HE606 => ?_
                refine pl_no HE606 (wtF HE606 rfl rfl rfl (decide_eq_false hc113)) rfl rfl fun a_607 HE608 => ?_
                refine pl_no HE608 (wtF HE608 rfl rfl rfl (decide_eq_false hc113)) rfl rfl fun a_609 HE610 => ?_
                refine pl_no HE610 (wtF HE610 rfl rfl rfl (decide_eq_false hc113)) rfl rfl fun a_611 HE612 => ?_
                refine pl_no HE612 (wtF HE612 rfl rfl rfl (decide_eq_false hc113)) rfl rfl fun a_613 HE614 => ?_
                refine pl_no HE614 (wtF HE614 rfl rfl rfl (decide_eq_false hc113)) rfl rfl fun a_615 HE616 => ?_
                refine pl_x HE616 HH525 (wt0 rfl) (x_pickF rfl (decide_eq_false hc113) rfl) rfl rfl fun a_617 HE618 => ?_
                refine wpList_nil ?_
                clear a_532 HE533 a_534 HE535 a_536 HE537 a_538 HE539 a_540 HE541 a_542 HE543 a_544 HE545 a_546 HE547 a_548 HE549 a_603 HE604 a_605 HE606 a_607 HE608 a_609 HE610 a_611 HE612 a_613 HE614 a_615 HE616
                refine nrm ?_
                refine cndF HE618 rfl rfl ?_
                refine wp_skip ?_
                refine blk_n ?_
                refine nrm ?_
                refine rg ?_
                refine pl_x HE618 HH525 (wt0 rfl) (x_move rfl) rfl rfl fun a_619 HE620 => ?_
                refine pl_x HE620 HH525 (wt0 rfl) (x_add rfl rfl (by exact ⟨by omega, by omega⟩)) rfl rfl fun a_621 HE622 => ?_
                refine pl_x HE622 HH525 (wt0 rfl) (x_assign rfl) rfl rfl fun a_623 HE624 => ?_
                refine wpList_nil ?_
                clear a_617 HE618 a_619 HE620 a_621 HE622
                have E124 : ((nxP a0 y81).take (k + 1)).foldl (addI (a0.length : Int)) (bfsI a0 i) = ((nxP a0 y81).take k).foldl (addI (a0.length : Int)) (bfsI a0 i) := by
                  have hq : (nxP a0 y81)[k]? = some y112 := by rw [hnx, xy112]; exact List.getElem?_eq_getElem _
                  rw [take_snocI hq, List.foldl_append]; show addI _ _ _ = _; first | exact addI_hit (by omega) (by assumption) | exact addI_miss (.inl (by omega)) | exact addI_miss (.inr (by assumption))
                exact nrm ⟨(nxP a0 y81).length - (k + 1), (by omega), k + 1, A_3, c_3, S_3, rfl, HE624.sub ⟨(by rw [E124]; rfl), (lkI rfl (by first | rfl | omega | (simp [hc22, p78_0, hc79, xy81, xe82, hc85, p109_0, hc110, xy112, hc113]; done))), rfl, rfl, rfl, trivial⟩, ((HH525.sel [0, 1, 2] (by decide) rfl).to (by first | rfl | (rw [E124]; done) | (rw [E124]; rfl) | (simp only [E124]; done) | (simp only [E124]; rfl) | (rw [E124]; simp only [List.length_set]; done))), (by first | omega | assumption | (simp; done) | simp_all)⟩
            · refine wp_exit ?_
              refine (thn_exit (thn_exit (blk_hit ?_)))
              refine blk_n ?_
              refine nrm ?_
              refine rg ?_
              refine pl_x HE533 HH525 (wt0 rfl) (x_move rfl) rfl rfl fun a_625 HE626 => ?_
              refine pl_x HE626 HH525 (wt0 rfl) (x_add rfl rfl (by exact ⟨by omega, by omega⟩)) rfl rfl fun a_627 HE628 => ?_
              refine pl_x HE628 HH525 (wt0 rfl) (x_assign rfl) rfl rfl fun a_629 HE630 => ?_
              refine wpList_nil ?_
              clear a_532 HE533 a_625 HE626 a_627 HE628
              have E125 : bfsI a0 (i + 1) = ((nxP a0 y81).take k).foldl (addI (a0.length : Int)) (bfsI a0 i) := by
                exact bfsI_next hby (by omega)
              exact nrm ⟨a0.length - (i + 1), (by omega), i + 1, A_3, c_3, S_3, rfl, HE630.sub ⟨(by rw [E125]; rfl), (lkI rfl (by first | rfl | omega | (simp [hc22, p78_0, hc79, xy81, xe82, hc85, p109_0, hc110]; done))), rfl, trivial⟩, ((HH525.sel [0] (by decide) rfl).to (by first | rfl | (rw [E125]; done) | (rw [E125]; rfl) | (simp only [E125]; done) | (simp only [E125]; rfl) | (rw [E125]; simp only [List.length_set]; done))), (by rw [bfsI_next hby (k := k) (by omega)]; omega)⟩
      · refine wp_exit ?_
        refine (thn_exit (thn_exit (blk_hit ?_)))
        refine nrm ?_
        refine wp_seq ?_
        refine rg ?_
        refine pl_x HE350 HH342 (wt0 rfl) (x_move rfl) rfl rfl fun a_631 HE632 => ?_
        refine pl fun K_633 hK634 => ?_
        refine st_call HE632 (wt0 rfl) rfl rfl rfl en_88 rfl rfl (spec_l01Sorted _ _ (bfsI a0 i) _ (HH342.vecSl (i := 0) rfl) (by omega)) fun e w' hr => ?_
        obtain ⟨Ar126_0, cr126_0, rfl, hor126_0, hbr126⟩ := hr
        obtain ⟨Sr126, HH635⟩ := HH342.newS hbr126 hor126_0
        refine ⟨_, rfl, fun a_636 HE637 => hK634 _ _ ?_⟩
        refine pl_x HE637 HH635 (wt0 rfl) (x_assign rfl) rfl rfl fun a_638 HE639 => ?_
        refine wpList_nil ?_
        clear a_349 HE350 HH342 a_631 HE632 a_636 HE637 hK634 K_633
        refine nrm ?_
        refine wp_ret ?_
        refine ret1 HE639 rfl (rv_tmp rfl) ?_
        have hF : (keptP a0) = (sortI (bfsI a0 i)) := by
          exact (bfs_kept hnn (by omega)).symm
        exact ⟨Ar126_0, cr126_0, by first | (rw [hF] <;> rfl) | rfl | (rw [hF]; simp only [Ending.returned.injEq, Value.slice.injEq, true_and, and_true]; first | omega | (simp; done)) | (rw [hF]; simp; omega), by rw [hF]; exact (HH635.so (i := 0) rfl), HH635.below⟩

set_option maxRecDepth 100000 in
set_option maxHeartbeats 4000000 in
theorem spec_PruneProgram (A0 : Option Addr) (c0 : Nat) (a0 : (List tInstr)) (w : World) (h0 : Sl eInstr w (Old w) A0 c0 a0) :
    Calls Try.prog 17 #[.slice A0 a0.length c0] w fun e w' => ∃ (A0' : Option Addr) (c0' : Nat) (S0' : Nat → Prop) (A1' : Option Addr) (c1' : Nat) (S1' : Nat → Prop), e = .returned (.tuple #[.slice A0' (pruneP a0).1.length c0', .slice A1' (pruneP a0).2.1.length c1', .int .i64 (pruneP a0).2.2]) ∧ Held Nob w [rSo eInstr S0' A0' c0' (pruneP a0).1, rSo eInt S1' A1' c1' (pruneP a0).2.1] w' := by
  have l0 := h0.len
  have HH1 := Held.start Nob w
  refine enter (n := 74) Try.func17 rfl rfl rfl fun a_2 HE3 => ?_
  refine wp_seq ?_
  refine rg ?_
  refine pl_x HE3 HH1 (wt0 rfl) (x_assign rfl) rfl rfl fun a_4 HE5 => ?_
  refine pl_x HE5 HH1 (wt0 rfl) (x_assign rfl) rfl rfl fun a_6 HE7 => ?_
  refine pl_x HE7 HH1 (wt0 rfl) (x_assign rfl) rfl rfl fun a_8 HE9 => ?_
  refine wpList_nil ?_
  clear a_2 HE3 a_4 HE5 a_6 HE7
  refine nrm ?_
  refine wp_seq ?_
  refine wp_seq ?_
  refine rg ?_
  refine pl_x HE9 HH1 (wt0 rfl) (x_move rfl) rfl rfl fun a_10 HE11 => ?_
  refine pl fun K_12 hK13 => ?_
  refine st_call HE11 (wt0 rfl) rfl rfl rfl en_48 rfl rfl (spec_l07Is _ _ a0 _ (HH1.old h0)) fun e w' hr => ?_
  obtain ⟨rfl, hbr21⟩ := hr
  have HH14 := HH1.on hbr21
  refine ⟨_, rfl, fun a_15 HE16 => hK13 _ _ ?_⟩
  refine pl_x HE16 HH14 (wt0 rfl) (x_not rfl) rfl rfl fun a_17 HE18 => ?_
  refine wpList_nil ?_
  clear a_8 HE9 HH1 a_10 HE11 a_15 HE16 hK13 K_12
  refine nrm ?_
  refine cnd_nb HE18 rfl (fun hc22 => ?_) (fun hc22 => ?_)
  · refine wp_seq ?_
    refine rg ?_
    refine pl_x HE18 HH14 (wt0 rfl) (x_assign rfl) rfl rfl fun a_19 HE20 => ?_
    refine pl_x HE20 HH14 (wt0 rfl) (x_assign rfl) rfl rfl fun a_21 HE22 => ?_
    refine pl_x HE22 HH14 (wt0 rfl) (x_assign rfl) rfl rfl fun a_23 HE24 => ?_
    refine wpList_nil ?_
    clear a_17 HE18 a_19 HE20 a_21 HE22
    refine nrm ?_
    refine wp_ret ?_
    refine (thn_ret ?_)
    refine ret3 HE24 rfl (rv_tmp rfl) (rv_tmp rfl) (rv_tmp rfl) ?_
    have HH25 := HH14.vecNil eInstr 81
    have HH26 := HH25.vecSo
    have HH27 := HH26.vecNil eInt 2
    have HH28 := HH27.vecSo
    have hF : (pruneP a0) = ([], [], 1) := by
      first | (simp [pruneP, hc22]; done) | (unfold pruneP; rw [if_pos hvp, ← prune_eq hvp, List.take_of_length_le (by omega)])
    exact ⟨_, _, _, _, _, _, by first | (rw [hF] <;> rfl) | rfl | (rw [hF]; simp only [Ending.returned.injEq, Value.slice.injEq, true_and, and_true]; first | omega | (simp; done)) | (rw [hF]; simp; omega), by rw [hF]; exact HH28.sel [1, 0] (by decide) rfl⟩
  · have hvp := hc22
    have hok := validProg_okP hc22
    have hlen := hok.1
    have hkb := keptP_bd hc22
    have hkl := keptP_len a0
    have hkr := keptP_rise a0
    have hnn := nxP_nn hc22
    refine wp_skip ?_
    refine nrm ?_
    refine wp_seq ?_
    refine rg ?_
    refine pl_x HE18 HH14 (wt0 rfl) (x_move rfl) rfl rfl fun a_29 HE30 => ?_
    refine pl fun K_31 hK32 => ?_
    refine st_call HE30 (wt0 rfl) rfl rfl rfl en_49 rfl rfl (spec_l07Reach _ _ a0 _ (HH14.old h0) (by assumption) (by omega)) fun e w' hr => ?_
    obtain ⟨Ar23_0, cr23_0, rfl, hor23_0, hbr23⟩ := hr
    obtain ⟨Sr23, HH33⟩ := HH14.newS hbr23 hor23_0
    refine ⟨_, rfl, fun a_34 HE35 => hK32 _ _ ?_⟩
    refine pl_x HE35 HH33 (wt0 rfl) (x_assign rfl) rfl rfl fun a_36 HE37 => ?_
    refine wpList_nil ?_
    clear a_17 HE18 HH14 a_29 HE30 a_34 HE35 hK32 K_31
    refine nrm ?_
    refine wp_seq ?_
    refine rg ?_
    refine pl_x HE37 HH33 (wt0 rfl) (x_move rfl) rfl rfl fun a_38 HE39 => ?_
    refine pl_x HE39 HH33 (wt0 rfl) (x_len Try.underlying36 rfl) rfl rfl fun a_40 HE41 => ?_
    refine pl_x HE41 HH33 (wt0 rfl) (x_add rfl rfl (by exact ⟨by omega, by omega⟩)) rfl rfl fun a_42 HE43 => ?_
    refine pl fun K_44 hK45 => ?_
    refine st_make (E := eInt) (x := (0 : Int)) (k := (a0.length + 1)) HE43 HH33 ts_37 tv_2 rfl (fun _ => oI ⟨by omega, by omega⟩) rfl rfl (by omega) (by omega) (by omega) (by omega) (wt0 rfl) rfl fun q24 a_46 w' HE47 HH48 => hK45 _ _ ?_
    have hlq24 : (List.replicate (a0.length + 1) (0 : Int)).length = (a0.length + 1) := List.length_replicate
    refine pl_x HE47 HH48 (wt0 rfl) (x_assign rfl) rfl rfl fun a_49 HE50 => ?_
    refine wpList_nil ?_
    clear a_36 HE37 a_38 HE39 a_40 HE41 a_42 HE43 HH33 a_46 HE47 hK45 K_44
    refine nrm ?_
    refine wp_seq ?_
    refine rg ?_
    refine pl_x HE50 HH48 (wt0 rfl) (x_move rfl) rfl rfl fun a_51 HE52 => ?_
    refine pl_x HE52 HH48 (wt0 rfl) (x_move rfl) rfl rfl fun a_53 HE54 => ?_
    refine pl_x HE54 HH48 (wt0 rfl) (x_len Try.underlying36 rfl) rfl rfl fun a_55 HE56 => ?_
    refine pl_x HE56 HH48 (wt0 rfl) (x_move rfl) rfl rfl fun a_57 HE58 => ?_
    refine pl_x HE58 HH48 (wt0 rfl) (x_len Try.underlying37 rfl) rfl rfl fun a_59 HE60 => ?_
    have ke25 : a0.length < (List.replicate (a0.length + 1) (0 : Int)).length := by omega
    refine pl_x HE60 HH48 (wt0 rfl) (x_indexAddr ts_37 rfl rfl rfl rfl ke25) rfl rfl fun a_61 HE62 => ?_
    refine pl fun K_63 hK64 => ?_
    refine st_storeI 0 HE62 HH48 tv_2 rfl rfl rfl (by first | exact ke25 | (simp only [List.length_set]; exact ke25) | omega | (simp only [List.length_set]; omega) | (simp; omega)) (by exact ⟨by omega, by omega⟩) (wt0 rfl) fun w' HH65 => hK64 _ _ ?_
    refine wpList_nil ?_
    clear a_49 HE50 a_51 HE52 a_53 HE54 a_55 HE56 a_57 HE58 a_59 HE60 HH48 hK64 K_63
    refine nrm ?_
    refine wp_seq ?_
    refine wp_seq ?_
    refine rg ?_
    refine pl_x HE62 HH65 (wt0 rfl) (x_assign rfl) rfl rfl fun a_66 HE67 => ?_
    refine wpList_nil ?_
    clear a_61 HE62
    refine nrm ?_
    refine wp_block ?_
    refine lp (fun m a w' => ∃ (i : Nat) (S_6 : Nat → Prop), m = (keptP a0).length - i ∧ Env 74 [(7, .int .i64 (i : Int)), (0, .slice A0 (a0.length) c0), (5, .slice Ar23_0 ((keptP a0).length) cr23_0), (6, .slice (some ⟨q24, 0, none⟩) ((List.replicate (a0.length + 1) (0 : Int)).length) (a0.length + 1))] a ∧ Held Nob w [rSo eInt S_6 (some ⟨q24, 0, none⟩) (a0.length + 1) (plcI (keptP a0) a0.length i), rSo eInt Sr23 Ar23_0 cr23_0 (keptP a0)] w' ∧ (i ≤ (keptP a0).length)) ((keptP a0).length - (0)) ?_ ?_
    · have E26 : plcI (keptP a0) a0.length 0 = ((List.replicate (a0.length + 1) (0 : Int)).set a0.length ((keptP a0).length : Int)) := by
        rfl
      exact ⟨0, (fun b => b = q24), rfl, HE67.sub ⟨(lkI rfl (by first | rfl | omega | (simp [hc22]; done))), rfl, rfl, rfl, trivial⟩, ((HH65.sel [0, 1] (by decide) rfl).to (by first | rfl | (rw [E26]; done) | (rw [E26]; rfl) | (simp only [E26]; done) | (simp only [E26]; rfl) | (rw [E26]; simp only [List.length_set]; done))), (by first | omega | assumption | (simp; done) | simp_all)⟩
    · rintro m a_68 w' ⟨i, S_6, rfl, HE69, HH70, p27_0⟩
      have hpl := plcI_len (keptP a0) a0.length i
      refine wp_seq ?_
      refine wp_seq ?_
      refine rg ?_
      refine pl_x HE69 HH70 (wt0 rfl) (x_move rfl) rfl rfl fun a_71 HE72 => ?_
      refine pl_x HE72 HH70 (wt0 rfl) (x_move rfl) rfl rfl fun a_73 HE74 => ?_
      refine pl_x HE74 HH70 (wt0 rfl) (x_len Try.underlying37 rfl) rfl rfl fun a_75 HE76 => ?_
      refine pl_x HE76 HH70 (wt0 rfl) (x_lss rfl rfl) rfl rfl fun a_77 HE78 => ?_
      refine wpList_nil ?_
      clear a_66 HE67 HH65 a_68 HE69 a_71 HE72 a_73 HE74 a_75 HE76
      refine nrm ?_
      refine cnd_d HE78 rfl (fun hc28 => ?_) (fun hc28 => ?_)
      · refine wp_skip ?_
        refine nrm ?_
        refine wp_seq ?_
        refine wp_block ?_
        refine rg ?_
        refine pl_x HE78 HH70 (wt0 rfl) (x_move rfl) rfl rfl fun a_79 HE80 => ?_
        refine pl_x HE80 HH70 (wt0 rfl) (x_move rfl) rfl rfl fun a_81 HE82 => ?_
        refine pl_x HE82 HH70 (wt0 rfl) (x_move rfl) rfl rfl fun a_83 HE84 => ?_
        have ke29 : i < (keptP a0).length := by omega
        obtain ⟨be29, fe29, rfl⟩ := el_own HH70 (i := 1) rfl ke29
        refine pl_x HE84 HH70 (wt0 rfl) (x_indexAddr ts_37 rfl rfl rfl rfl ke29) rfl rfl fun a_85 HE86 => ?_
        obtain ⟨y30, xy30⟩ : ∃ y_, y_ = (keptP a0)[i]'(by first | exact ke29 | (simp only [List.length_set]; exact ke29) | omega | (simp only [List.length_set]; omega) | (simp; omega)) := ⟨_, rfl⟩
        have iy30 : I64 y30 := by rw [xy30]; exact i_ownI HH70 1 rfl _
        have jy30 := iy30; unfold I64 at jy30
        have hby30 := hkb y30 (by rw [xy30]; exact List.getElem_mem _)
        have hkm : (keptP a0)[i]? = some y30 := by rw [xy30]; exact List.getElem?_eq_getElem _
        refine pl_x HE86 HH70 (wt0 rfl) (x_load1 tv_2 rfl (c_ownV 1 rfl (by first | exact ke29 | (simp only [List.length_set]; exact ke29) | omega | (simp only [List.length_set]; omega) | (simp; omega)) xy30.symm)) rfl rfl fun a_87 HE88 => ?_
        refine pl_x HE88 HH70 (wt0 rfl) (x_move rfl) rfl rfl fun a_89 HE90 => ?_
        have ke31 : (y30).toNat < (List.replicate (a0.length + 1) (0 : Int)).length := by omega
        refine pl_x HE90 HH70 (wt0 rfl) (x_indexAddr ts_37 rfl rfl rfl (by omega) ke31) rfl rfl fun a_91 HE92 => ?_
        refine pl fun K_93 hK94 => ?_
        refine st_storeI 0 HE92 HH70 tv_2 rfl rfl rfl (by first | exact ke31 | (simp only [List.length_set]; exact ke31) | omega | (simp only [List.length_set]; omega) | (simp; omega)) (by exact ⟨by omega, by omega⟩) (wt0 rfl) fun w' HH95 => hK94 _ _ ?_
        refine wpList_nil ?_
        clear a_77 HE78 a_79 HE80 a_81 HE82 a_83 HE84 a_85 HE86 a_87 HE88 a_89 HE90 HH70 hK94 K_93
        refine blk_n ?_
        refine nrm ?_
        refine rg ?_
        refine pl_x HE92 HH95 (wt0 rfl) (x_move rfl) rfl rfl fun a_96 HE97 => ?_
        refine pl_x HE97 HH95 (wt0 rfl) (x_add rfl rfl (by exact ⟨by omega, by omega⟩)) rfl rfl fun a_98 HE99 => ?_
        refine pl_x HE99 HH95 (wt0 rfl) (x_assign rfl) rfl rfl fun a_100 HE101 => ?_
        refine wpList_nil ?_
        clear a_91 HE92 a_96 HE97 a_98 HE99
        have E32 : plcI (keptP a0) a0.length (i + 1) = ((plcI (keptP a0) a0.length i).set ((y30).toNat) (i : Int)) := by
          rw [plcI, List.getElem?_eq_getElem (by omega), ← xy30]; rfl
        exact nrm ⟨(keptP a0).length - (i + 1), (by omega), i + 1, S_6, rfl, HE101.sub ⟨(lkI rfl (by first | rfl | omega | (simp [hc22, p27_0, hc28, xy30]; done))), rfl, rfl, rfl, trivial⟩, ((HH95.sel [0, 1] (by decide) rfl).to (by first | rfl | (rw [E32]; done) | (rw [E32]; rfl) | (simp only [E32]; done) | (simp only [E32]; rfl) | (rw [E32]; simp only [List.length_set]; done))), (by first | omega | assumption | (simp; done) | simp_all)⟩
      · refine wp_exit ?_
        refine (thn_exit (thn_exit (blk_hit ?_)))
        refine nrm ?_
        refine wp_seq ?_
        refine rg ?_
        refine pl fun K_102 hK103 => ?_
        refine st_lit (m := 0) (cs := []) (e := 81) HE78 HH70 (run_lit ts_36 HE78 (vs := []) rfl rfl (by simp [Value.cells]) rfl (by decide)) (wt0 rfl) rfl rfl fun q33 a_104 w' HE105 HH106 => hK103 _ _ ?_
        refine pl_x HE105 HH106 (wt0 rfl) (x_assign rfl) rfl rfl fun a_107 HE108 => ?_
        refine wpList_nil ?_
        clear a_77 HE78 HH70 a_104 HE105 hK103 K_102
        refine nrm ?_
        refine wp_seq ?_
        refine wp_seq ?_
        refine rg ?_
        refine pl_x HE108 HH106 (wt0 rfl) (x_assign rfl) rfl rfl fun a_109 HE110 => ?_
        refine wpList_nil ?_
        clear a_107 HE108
        refine nrm ?_
        refine wp_block ?_
        have HH111 := Held.vecFlat (E := eInstr) (xs := []) (css := []) HH106 rfl (Nat.zero_le _) (fun i x hx => by simp at hx)
        refine lp (fun m a w' => ∃ (k : Nat) (A_8 : Option Addr) (c_8 : Nat) (S_8 : Nat → Prop), m = (keptP a0).length - k ∧ Env 74 [(8, .slice A_8 (List.length (((keptP a0).take k).map (fun z => red (plcF (keptP a0) a0.length) (atP a0 z)))) c_8), (9, .int .i64 (k : Int)), (0, .slice A0 (a0.length) c0), (5, .slice Ar23_0 ((keptP a0).length) cr23_0), (6, .slice (some ⟨q24, 0, none⟩) ((List.replicate (a0.length + 1) (0 : Int)).length) (a0.length + 1))] a ∧ Held Nob w [rVec eInstr 81 S_8 A_8 c_8 (((keptP a0).take k).map (fun z => red (plcF (keptP a0) a0.length) (atP a0 z))), rSo eInt S_6 (some ⟨q24, 0, none⟩) (a0.length + 1) (plcI (keptP a0) a0.length i), rSo eInt Sr23 Ar23_0 cr23_0 (keptP a0)] w' ∧ (k ≤ (keptP a0).length)) ((keptP a0).length - (0)) ?_ ?_
        · have E34 : ((keptP a0).take 0).map (fun z => red (plcF (keptP a0) a0.length) (atP a0 z)) = ([] : List tInstr) := by
            rfl
          exact ⟨0, (some ⟨q33, 0, none⟩), (List.length (α := tInstr) []), (fun b => b = q33), rfl, HE110.sub ⟨(by rw [E34]; rfl), (lkI rfl (by first | rfl | omega | (simp [hc22, p27_0, hc28]; done))), rfl, rfl, rfl, trivial⟩, ((HH111.sel [0, 1, 2] (by decide) rfl).to (by first | rfl | (rw [E34]; done) | (rw [E34]; rfl) | (simp only [E34]; done) | (simp only [E34]; rfl) | (rw [E34]; simp only [List.length_set]; done))), (by first | omega | assumption | (simp; done) | simp_all)⟩
        · rintro m a_112 w' ⟨k, A_8, c_8, S_8, rfl, HE113, HH114, p35_0⟩
          have ol : (((keptP a0).take k).map (fun z => red (plcF (keptP a0) a0.length) (atP a0 z))).length = k := by rw [List.length_map, List.length_take]; omega
          have hpl := plcI_len (keptP a0) a0.length i
          refine wp_seq ?_
          refine wp_seq ?_
          refine rg ?_
          refine pl_x HE113 HH114 (wt0 rfl) (x_move rfl) rfl rfl fun a_115 HE116 => ?_
          refine pl_x HE116 HH114 (wt0 rfl) (x_move rfl) rfl rfl fun a_117 HE118 => ?_
          refine pl_x HE118 HH114 (wt0 rfl) (x_len Try.underlying37 rfl) rfl rfl fun a_119 HE120 => ?_
          refine pl_x HE120 HH114 (wt0 rfl) (x_lss rfl rfl) rfl rfl fun a_121 HE122 => ?_
          refine wpList_nil ?_
          clear HH106 a_109 HE110 HH111 a_112 HE113 a_115 HE116 a_117 HE118 a_119 HE120
          refine nrm ?_
          refine cnd_d HE122 rfl (fun hc36 => ?_) (fun hc36 => ?_)
          · refine wp_skip ?_
            refine nrm ?_
            refine wp_seq ?_
            refine wp_block ?_
            refine wp_seq ?_
            refine rg ?_
            refine pl_x HE122 HH114 (wt0 rfl) (x_move rfl) rfl rfl fun a_123 HE124 => ?_
            refine pl_x HE124 HH114 (wt0 rfl) (x_move rfl) rfl rfl fun a_125 HE126 => ?_
            refine pl_x HE126 HH114 (wt0 rfl) (x_move rfl) rfl rfl fun a_127 HE128 => ?_
            have ke37 : k < (keptP a0).length := by omega
            obtain ⟨be37, fe37, rfl⟩ := el_own HH114 (i := 2) rfl ke37
            refine pl_x HE128 HH114 (wt0 rfl) (x_indexAddr ts_37 rfl rfl rfl rfl ke37) rfl rfl fun a_129 HE130 => ?_
            obtain ⟨y38, xy38⟩ : ∃ y_, y_ = (keptP a0)[k]'(by first | exact ke37 | (simp only [List.length_set]; exact ke37) | omega | (simp only [List.length_set]; omega) | (simp; omega)) := ⟨_, rfl⟩
            have iy38 : I64 y38 := by rw [xy38]; exact i_ownI HH114 2 rfl _
            have jy38 := iy38; unfold I64 at jy38
            have hby38 := hkb y38 (by rw [xy38]; exact List.getElem_mem _)
            have hkm : (keptP a0)[k]? = some y38 := by rw [xy38]; exact List.getElem?_eq_getElem _
            refine pl_x HE130 HH114 (wt0 rfl) (x_load1 tv_2 rfl (c_ownV 2 rfl (by first | exact ke37 | (simp only [List.length_set]; exact ke37) | omega | (simp only [List.length_set]; omega) | (simp; omega)) xy38.symm)) rfl rfl fun a_131 HE132 => ?_
            have ke39 : (y38).toNat < a0.length := by omega
            obtain ⟨be39, fe39, ese39, Ae39, Re39, De39⟩ := el_old h0 ke39
            obtain ⟨e39, xe39⟩ : ∃ x_, x_ = a0[(y38).toNat] := ⟨_, rfl⟩
            rw [← xe39] at Re39
            have Qe39 := Re39
            obtain ⟨rfl, ge39_0, ge39_1, ge39_2, ge39_3⟩ := shape_Instr Re39
            have je39_0 := ge39_0; unfold I64 at je39_0
            have je39_1 := ge39_1; unfold I64 at je39_1
            have je39_2 := ge39_2; unfold I64 at je39_2
            have je39_3 := ge39_3; unfold I64 at je39_3
            have hge39 : a0[(y38).toNat]?.getD default = e39 := by rw [List.getElem?_eq_getElem ke39, xe39]; rfl
            have hte39 := validProg_to hvp e39 (by rw [xe39]; exact List.getElem_mem _)
            refine pl_x HE132 HH114 (wt0 rfl) (x_indexAddr ts_36 rfl rfl Ae39 (by omega) ke39) rfl rfl fun a_133 HE134 => ?_
            refine pl_x HE134 HH114 (wt0 rfl) (x_loadN (cs := [.int .i64 (e39.1), .int .i64 (e39.2.1), .int .i64 (e39.2.2.1), .int .i64 (e39.2.2.2)]) tv_81 rfl rfl (c_oldN De39)) rfl rfl fun a_135 HE136 => ?_
            refine pl fun K_137 hK138 => ?_
            refine st_alloc HE136 HH114 tv_81 (wt0 rfl) rfl fun q40 a_139 w' HE140 HH141 => hK138 _ _ ?_
            refine pl fun K_142 hK143 => ?_
            refine st_store (vs := [.int .i64 (e39.1), .int .i64 (e39.2.1), .int .i64 (e39.2.2.1), .int .i64 (e39.2.2.2)]) 0 HE140 HH141 tv_81 rfl rfl rfl rfl rfl rfl (by simp [Value.oneCell']) (wt0 rfl) fun w' HH144 => hK143 _ _ ?_
            refine wpList_nil ?_
            clear a_121 HE122 a_123 HE124 a_125 HE126 a_127 HE128 a_129 HE130 a_131 HE132 a_133 HE134 a_135 HE136 HH114 K_137 hK138 HH141 hK143 K_142
            refine nrm ?_
            refine wp_seq ?_
            refine rg ?_
            refine pl_x HE140 HH144 (wt0 rfl) (x_move rfl) rfl rfl fun a_145 HE146 => ?_
            refine pl_x HE146 HH144 (wt0 rfl) (x_fieldAddr fa_81_2 rfl) rfl rfl fun a_147 HE148 => ?_
            refine pl_x HE148 HH144 (wt0 rfl) (x_load1 tv_2 rfl (c_blk 0 rfl rfl)) rfl rfl fun a_149 HE150 => ?_
            have ke41 : (e39.2.2.1).toNat < (List.replicate (a0.length + 1) (0 : Int)).length := by omega
            refine pl_x HE150 HH144 (wt0 rfl) (x_indexAddr ts_37 rfl rfl rfl (by omega) ke41) rfl rfl fun a_151 HE152 => ?_
            obtain ⟨y42, xy42⟩ : ∃ y_, y_ = (plcI (keptP a0) a0.length i)[(e39.2.2.1).toNat]'(by first | exact ke41 | (simp only [List.length_set]; exact ke41) | omega | (simp only [List.length_set]; omega) | (simp; omega)) := ⟨_, rfl⟩
            have iy42 : I64 y42 := by rw [xy42]; exact i_ownI HH144 2 rfl _
            have jy42 := iy42; unfold I64 at jy42
            have hply42 : (plcI (keptP a0) a0.length (keptP a0).length)[(e39.2.2.1).toNat]?.getD 0 = y42 := by rw [show (keptP a0).length = i from by omega, List.getElem?_eq_getElem (by omega), ← xy42]; rfl
            refine pl_x HE152 HH144 (wt0 rfl) (x_load1 tv_2 rfl (c_ownV 2 rfl (by first | exact ke41 | (simp only [List.length_set]; exact ke41) | omega | (simp only [List.length_set]; omega) | (simp; omega)) xy42.symm)) rfl rfl fun a_153 HE154 => ?_
            refine pl_x HE154 HH144 (wt0 rfl) (x_fieldAddr fa_81_2 rfl) rfl rfl fun a_155 HE156 => ?_
            refine pl fun K_157 hK158 => ?_
            refine st_store (vs := [.int .i64 (y42)]) 0 HE156 HH144 tv_2 rfl rfl rfl rfl rfl rfl (by simp [Value.oneCell']) (wt0 rfl) fun w' HH159 => hK158 _ _ ?_
            refine wpList_nil ?_
            clear a_139 HE140 a_145 HE146 a_147 HE148 a_149 HE150 a_151 HE152 a_153 HE154 HH144 hK158 K_157
            refine nrm ?_
            refine wp_seq ?_
            refine wp_seq ?_
            refine rg ?_
            refine pl_x HE156 HH159 (wt0 rfl) (x_fieldAddr fa_81_0 rfl) rfl rfl fun a_160 HE161 => ?_
            refine pl_x HE161 HH159 (wt0 rfl) (x_load1 tv_2 rfl (c_blk 0 rfl rfl)) rfl rfl fun a_162 HE163 => ?_
            refine pl_x HE163 HH159 (wt0 rfl) (x_eql rfl rfl) rfl rfl fun a_164 HE165 => ?_
            refine wpList_nil ?_
            clear a_155 HE156 a_160 HE161 a_162 HE163
            refine nrm ?_
            refine cnd_e HE165 rfl (fun hc43 => ?_) (fun hc43 => ?_)
            · refine rg ?_
              refine pl_x HE165 HH159 (wt0 rfl) (x_move rfl) rfl rfl fun a_166 HE167 => ?_
              refine pl_x HE167 HH159 (wt0 rfl) (x_fieldAddr fa_81_3 rfl) rfl rfl fun a_168 HE169 => ?_
              refine pl_x HE169 HH159 (wt0 rfl) (x_load1 tv_2 rfl (c_blk 0 rfl rfl)) rfl rfl fun a_170 HE171 => ?_
              have ke44 : (e39.2.2.2).toNat < (List.replicate (a0.length + 1) (0 : Int)).length := by omega
              refine pl_x HE171 HH159 (wt0 rfl) (x_indexAddr ts_37 rfl rfl rfl (by omega) ke44) rfl rfl fun a_172 HE173 => ?_
              obtain ⟨y45, xy45⟩ : ∃ y_, y_ = (plcI (keptP a0) a0.length i)[(e39.2.2.2).toNat]'(by first | exact ke44 | (simp only [List.length_set]; exact ke44) | omega | (simp only [List.length_set]; omega) | (simp; omega)) := ⟨_, rfl⟩
              have iy45 : I64 y45 := by rw [xy45]; exact i_ownI HH159 2 rfl _
              have jy45 := iy45; unfold I64 at jy45
              have hply45 : (plcI (keptP a0) a0.length (keptP a0).length)[(e39.2.2.2).toNat]?.getD 0 = y45 := by rw [show (keptP a0).length = i from by omega, List.getElem?_eq_getElem (by omega), ← xy45]; rfl
              refine pl_x HE173 HH159 (wt0 rfl) (x_load1 tv_2 rfl (c_ownV 2 rfl (by first | exact ke44 | (simp only [List.length_set]; exact ke44) | omega | (simp only [List.length_set]; omega) | (simp; omega)) xy45.symm)) rfl rfl fun a_174 HE175 => ?_
              refine pl_x HE175 HH159 (wt0 rfl) (x_fieldAddr fa_81_3 rfl) rfl rfl fun a_176 HE177 => ?_
              refine pl fun K_178 hK179 => ?_
              refine st_store (vs := [.int .i64 (y45)]) 0 HE177 HH159 tv_2 rfl rfl rfl rfl rfl rfl (by simp [Value.oneCell']) (wt0 rfl) fun w' HH180 => hK179 _ _ ?_
              refine wpList_nil ?_
              clear a_164 HE165 a_166 HE167 a_168 HE169 a_170 HE171 a_172 HE173 a_174 HE175 HH159 hK179 K_178
              refine nrm ?_
              refine rg ?_
              refine pl_x HE177 HH180 (wt0 rfl) (x_move rfl) rfl rfl fun a_181 HE182 => ?_
              refine pl_x HE182 HH180 (wt0 rfl) (x_loadN (cs := [.int .i64 (e39.1), .int .i64 (e39.2.1), .int .i64 (y42), .int .i64 (y45)]) tv_81 rfl rfl (c_blkN 0 rfl)) rfl rfl fun a_183 HE184 => ?_
              refine pl fun K_185 hK186 => ?_
              refine st_lit (m := 1) (cs := [.int .i64 (e39.1), .int .i64 (e39.2.1), .int .i64 (y42), .int .i64 (y45)]) (e := 81) HE184 HH180 (run_lit ts_36 HE184 (vs := [.agg #[.int .i64 (e39.1), .int .i64 (e39.2.1), .int .i64 (y42), .int .i64 (y45)]]) rfl rfl (by simp [Value.cells]) rfl (by decide)) (wt0 rfl) rfl rfl fun q46 a_187 w' HE188 HH189 => hK186 _ _ ?_
              refine pl fun K_190 hK191 => ?_
              refine st_app1F (e39.1, e39.2.1, y42, y45) HE188 HH189 ts_36 [2, 0, 1, 3, 4] (by decide) rfl (fun _ => (oPrN (oI (by exact ⟨by omega, by omega⟩)) (oPrN (oI (by exact ⟨by omega, by omega⟩)) (oPrN (oI (by exact ⟨by omega, by omega⟩)) (oI (by exact ⟨by omega, by omega⟩)))))) rfl rfl (by simp [Value.oneCell']) (by unfold maxLen; first | omega | (simp; done) | (simp; omega)) (by first | omega | (simp; done) | (simp; omega)) (wt0 rfl) rfl fun A47 c48 S49 a_192 w' HE193 HH194 => hK191 _ _ ?_
              have lA47 : List.length (((keptP a0).take k).map (fun z => red (plcF (keptP a0) a0.length) (atP a0 z)) ++ [(e39.1, e39.2.1, y42, y45)]) = List.length (((keptP a0).take k).map (fun z => red (plcF (keptP a0) a0.length) (atP a0 z))) + 1 := List.length_append
              refine pl_x HE193 HH194 (wt0 rfl) (x_assign rfl) rfl rfl fun a_195 HE196 => ?_
              refine wpList_nil ?_
              clear a_176 HE177 a_181 HE182 a_183 HE184 HH180 K_185 hK186 a_187 HE188 HH189 a_192 HE193 hK191 K_190
              refine blk_n ?_
              refine nrm ?_
              refine rg ?_
              refine pl_x HE196 HH194 (wt0 rfl) (x_move rfl) rfl rfl fun a_197 HE198 => ?_
              refine pl_x HE198 HH194 (wt0 rfl) (x_add rfl rfl (by exact ⟨by omega, by omega⟩)) rfl rfl fun a_199 HE200 => ?_
              refine pl_x HE200 HH194 (wt0 rfl) (x_assign rfl) rfl rfl fun a_201 HE202 => ?_
              refine wpList_nil ?_
              clear a_195 HE196 a_197 HE198 a_199 HE200
              have E50 : ((keptP a0).take (k + 1)).map (fun z => red (plcF (keptP a0) a0.length) (atP a0 z)) = (((keptP a0).take k).map (fun z => red (plcF (keptP a0) a0.length) (atP a0 z)) ++ [(e39.1, e39.2.1, y42, y45)]) := by
                rw [take_snocI hkm, List.map_append]; show _ ++ [red _ (a0[_]?.getD default)] = _; rw [hge39]; unfold red plcF; first | (rw [if_pos (by omega)]; grind) | (rw [if_neg (by omega)]; grind)
              exact nrm ⟨(keptP a0).length - (k + 1), (by omega), k + 1, A47, c48, S49, rfl, HE202.sub ⟨(by rw [E50]; rfl), (lkI rfl (by first | rfl | omega | (simp [hc22, p27_0, hc28, p35_0, hc36, xy38, xe39, xy42, hc43, xy45]; done))), rfl, rfl, rfl, trivial⟩, ((HH194.sel [0, 2, 3] (by decide) rfl).to (by first | rfl | (rw [E50]; done) | (rw [E50]; rfl) | (simp only [E50]; done) | (simp only [E50]; rfl) | (rw [E50]; simp only [List.length_set]; done))), (by first | omega | assumption | (simp; done) | simp_all)⟩
            · refine wp_skip ?_
              refine nrm ?_
              refine rg ?_
              refine pl_x HE165 HH159 (wt0 rfl) (x_move rfl) rfl rfl fun a_203 HE204 => ?_
              refine pl_x HE204 HH159 (wt0 rfl) (x_loadN (cs := [.int .i64 (e39.1), .int .i64 (e39.2.1), .int .i64 (y42), .int .i64 (e39.2.2.2)]) tv_81 rfl rfl (c_blkN 0 rfl)) rfl rfl fun a_205 HE206 => ?_
              refine pl fun K_207 hK208 => ?_
              refine st_lit (m := 1) (cs := [.int .i64 (e39.1), .int .i64 (e39.2.1), .int .i64 (y42), .int .i64 (e39.2.2.2)]) (e := 81) HE206 HH159 (run_lit ts_36 HE206 (vs := [.agg #[.int .i64 (e39.1), .int .i64 (e39.2.1), .int .i64 (y42), .int .i64 (e39.2.2.2)]]) rfl rfl (by simp [Value.cells]) rfl (by decide)) (wt0 rfl) rfl rfl fun q51 a_209 w' HE210 HH211 => hK208 _ _ ?_
              refine pl fun K_212 hK213 => ?_
              refine st_app1F (e39.1, e39.2.1, y42, e39.2.2.2) HE210 HH211 ts_36 [2, 0, 1, 3, 4] (by decide) rfl (fun _ => (oPrN (oI (by exact ⟨by omega, by omega⟩)) (oPrN (oI (by exact ⟨by omega, by omega⟩)) (oPrN (oI (by exact ⟨by omega, by omega⟩)) (oI (by exact ⟨by omega, by omega⟩)))))) rfl rfl (by simp [Value.oneCell']) (by unfold maxLen; first | omega | (simp; done) | (simp; omega)) (by first | omega | (simp; done) | (simp; omega)) (wt0 rfl) rfl fun A52 c53 S54 a_214 w' HE215 HH216 => hK213 _ _ ?_
              have lA52 : List.length (((keptP a0).take k).map (fun z => red (plcF (keptP a0) a0.length) (atP a0 z)) ++ [(e39.1, e39.2.1, y42, e39.2.2.2)]) = List.length (((keptP a0).take k).map (fun z => red (plcF (keptP a0) a0.length) (atP a0 z))) + 1 := List.length_append
              refine pl_x HE215 HH216 (wt0 rfl) (x_assign rfl) rfl rfl fun a_217 HE218 => ?_
              refine wpList_nil ?_
              clear a_164 HE165 a_203 HE204 a_205 HE206 HH159 K_207 hK208 a_209 HE210 HH211 a_214 HE215 hK213 K_212
              refine blk_n ?_
              refine nrm ?_
              refine rg ?_
              refine pl_x HE218 HH216 (wt0 rfl) (x_move rfl) rfl rfl fun a_219 HE220 => ?_
              refine pl_x HE220 HH216 (wt0 rfl) (x_add rfl rfl (by exact ⟨by omega, by omega⟩)) rfl rfl fun a_221 HE222 => ?_
              refine pl_x HE222 HH216 (wt0 rfl) (x_assign rfl) rfl rfl fun a_223 HE224 => ?_
              refine wpList_nil ?_
              clear a_217 HE218 a_219 HE220 a_221 HE222
              have E55 : ((keptP a0).take (k + 1)).map (fun z => red (plcF (keptP a0) a0.length) (atP a0 z)) = (((keptP a0).take k).map (fun z => red (plcF (keptP a0) a0.length) (atP a0 z)) ++ [(e39.1, e39.2.1, y42, e39.2.2.2)]) := by
                rw [take_snocI hkm, List.map_append]; show _ ++ [red _ (a0[_]?.getD default)] = _; rw [hge39]; unfold red plcF; first | (rw [if_pos (by omega)]; grind) | (rw [if_neg (by omega)]; grind)
              exact nrm ⟨(keptP a0).length - (k + 1), (by omega), k + 1, A52, c53, S54, rfl, HE224.sub ⟨(by rw [E55]; rfl), (lkI rfl (by first | rfl | omega | (simp [hc22, p27_0, hc28, p35_0, hc36, xy38, xe39, xy42, hc43]; done))), rfl, rfl, rfl, trivial⟩, ((HH216.sel [0, 2, 3] (by decide) rfl).to (by first | rfl | (rw [E55]; done) | (rw [E55]; rfl) | (simp only [E55]; done) | (simp only [E55]; rfl) | (rw [E55]; simp only [List.length_set]; done))), (by first | omega | assumption | (simp; done) | simp_all)⟩
          · refine wp_exit ?_
            refine (thn_exit (thn_exit (blk_hit ?_)))
            refine nrm ?_
            refine wp_seq ?_
            refine rg ?_
            refine pl_x HE122 HH114 (wt0 rfl) (x_move rfl) rfl rfl fun a_225 HE226 => ?_
            refine pl_x HE226 HH114 (wt0 rfl) (x_move rfl) rfl rfl fun a_227 HE228 => ?_
            refine pl_x HE228 HH114 (wt0 rfl) (x_assign rfl) rfl rfl fun a_229 HE230 => ?_
            refine pl_x HE230 HH114 (wt0 rfl) (x_assign rfl) rfl rfl fun a_231 HE232 => ?_
            refine pl_x HE232 HH114 (wt0 rfl) (x_assign rfl) rfl rfl fun a_233 HE234 => ?_
            refine wpList_nil ?_
            clear a_121 HE122 a_225 HE226 a_227 HE228 a_229 HE230 a_231 HE232
            refine nrm ?_
            refine wp_ret ?_
            refine ret3 HE234 rfl (rv_tmp rfl) (rv_tmp rfl) (rv_tmp rfl) ?_
            have HH235 := HH114.vecSo
            have hF : (pruneP a0) = (((keptP a0).take k).map (fun z => red (plcF (keptP a0) a0.length) (atP a0 z)), (keptP a0), 0) := by
              first | (simp [pruneP, hc22, p27_0, hc28, p35_0, hc36]; done) | (unfold pruneP; rw [if_pos hvp, ← prune_eq hvp, List.take_of_length_le (by omega)])
            exact ⟨_, _, _, _, _, _, by first | (rw [hF] <;> rfl) | rfl | (rw [hF]; simp only [Ending.returned.injEq, Value.slice.injEq, true_and, and_true]; first | omega | (simp; done)) | (rw [hF]; simp; omega), by rw [hF]; exact HH235.sel [0, 2] (by decide) rfl⟩

end Go.Proofs.Ythfihlfjphiihaa
