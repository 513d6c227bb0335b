/- What the proof of FnExactReadMachine needs: contracts of the functions that it reaches, each once. -/
import Derived.Test.YthfihlfjphiihaaGreatDoorProg
import Derived.Test.YthfihlfjphiihaaGreatDoorQMem
import Derived.Test.YthfihlfjphiihaaGreatDoorQOpen
import Derived.Test.YthfihlfjphiihaaGreatDoorLReadMachinea
import Derived.Test.YthfihlfjphiihaaGreatDoorLReadMachineb
import Derived.Test.YthfihlfjphiihaaGreatDoorLReadMachinec
import Derived.Test.YthfihlfjphiihaaGreatDoorLReadMachined
import Derived.Test.YthfihlfjphiihaaGreatDoorLReadMachinee
import Derived.Test.YthfihlfjphiihaaGreatDoorLReadMachinef
import Derived.WalkKit
import Derived.WalkSpells
import Derived.Below
import Derived.LoopTactic
import Derived.Outline
import Derived.Deep.QuietTactic
import Derived.BigQuiet
import Derived.Deep.LoopGhost
import Derived.Handy
import Derived.Lib.Hide
import Derived.Shelf.Abstract
import Derived.StillTailTactics
import Derived.OwnWalk
import Derived.Maps.AppendAt
import Derived.RegionTactic
import Derived.Deep.RegionHeld3
import Derived.IntWalk
import Derived.Deep.Upon
import Derived.Laws.OwnMore
import Derived.Maps.AppendAt
import Derived.Laws.Small
import Derived.Laws.BytesString
import Derived.Laws.Strings
import Derived.Lib.Bytes
import Derived.Lib.Strings
import Derived.Lib.FrozenHead
import Derived.Lib.RuneBytes
import Derived.Lib.LaidTab
import Derived.Laws.StructEq
import Derived.Lib.MapLaws
import Derived.Lib.OthersKept
import Derived.Laws.RangeAny
import Derived.Scope
import Derived.RangeFuncNested
import Derived.RangeFuncBound
import Derived.RangeFuncCalls
import Derived.RangeFuncLeaves
import Derived.OwnWalkIn
import Derived.TacticsInMore
import Derived.Lib.ItoaLen
import Derived.Lib.Join
import Derived.Shelf.Strconv.Itoa4
import Derived.Shelf.Strings.OnBuilder
import Derived.Shelf.Strings.BuilderK
import Derived.Shelf.Strings.BuilderRune
import Derived.Shelf.LaysM
import Derived.Ground.NamesProg
import Derived.Lib.ParseIntBTie
import Derived.Lib.SplitLaws
import Derived.Lib.Replace
import Derived.Shelf.LaysC
import Derived.Shelf.Strconv.ErrVarParseInt
import Derived.Shelf.Strconv.ParseIntPublic10
import Derived.Shelf.Strings.Prefix
import Derived.Shelf.Strings.Cut
import Derived.Shelf.Strings.Split
import Derived.Shelf.Strings.Replace
import Derived.Shelf.Small.Wraps
import Derived.Stop.IfaceNil
import Derived.Shelf.Small.Utf8
import Derived.Shelf.Strings.Runes
import Derived.Lib.IndexAny
import Derived.Shelf.Strings.IndexAnyAll
namespace Go.Proofs.YthfihlfjphiihaaGreatDoor
open Go.RowKit

open Go.Lib in
set_option maxRecDepth 100000 in
set_option maxHeartbeats 4000000 in
theorem impl_ReadMachine (a0 : List UInt8) (w : World) (hG : Glob2 w) (s0 : a0.length ≤ 2000000) :
    Calls Tryz.prog 5 #[.string (bs a0)] w fun e w' => ∃ (es0' : List Value), e = .returned (.tuple #[.agg es0'.toArray, .bool (rdMaI a0).2]) ∧ eMachine.O w' (Fr w w') es0' (rdMaI a0).1 ∧ Below w.heap.size w w' := by
  have hA0 := splitR_len 59 a0
  have HH1 := Held.start Nob w
  refine enter (n := 53) Tryz.func5 rfl rfl rfl fun a_2 HE3 => ?_
  refine wp_seq ?_
  refine rg ?_
  refine pl fun K_4 hK5 => ?_
  refine st_alloc HE3 HH1 tv_24 (wt0 rfl) rfl fun q21 a_6 w' HE7 HH8 => hK5 _ _ ?_
  refine pl_x HE7 HH8 (wt0 rfl) (x_assign rfl) rfl rfl fun a_9 HE10 => ?_
  refine wpList_nil ?_
  clear a_2 HE3 HH1 a_6 HE7 hK5 K_4
  refine nrm ?_
  refine wp_seq ?_
  refine rg ?_
  refine pl_x HE10 HH8 (wt0 rfl) (x_move rfl) rfl rfl fun a_11 HE12 => ?_
  refine pl fun K_13 hK14 => ?_
  refine st_call HE12 (wt0 rfl) rfl rfl rfl en_10 rfl rfl (Split_1 a0 ([59]) 59 _ (HH8.glob2 hG) (by omega) (by rfl)) fun e w' hr => ?_
  have hAr22_0 := splitR_len 59 a0
  have hAr22_1 := splitR_piece 59 a0
  obtain ⟨Ar22_0, cr22_0, rfl, hor22_0, hbr22⟩ := hr
  obtain ⟨Sr22, HH15⟩ := HH8.newS hbr22 hor22_0
  refine ⟨_, rfl, fun a_16 HE17 => hK14 _ _ ?_⟩
  refine pl_x HE17 HH15 (wt0 rfl) (x_assign rfl) rfl rfl fun a_18 HE19 => ?_
  refine wpList_nil ?_
  clear a_9 HE10 HH8 a_11 HE12 a_16 HE17 hK14 K_13
  refine nrm ?_
  refine wp_seq ?_
  refine rg ?_
  refine pl_x HE19 HH15 (wt0 rfl) (x_move rfl) rfl rfl fun a_20 HE21 => ?_
  refine pl fun K_22 hK23 => ?_
  refine st_call HE21 (wt0 rfl) rfl rfl rfl en_11 rfl rfl (impl_size_Txt _ _ (splitR 59 a0) _ (HH15.sl (i := 0) rfl)) fun e w' hr => ?_
  obtain ⟨rfl, hbr23⟩ := hr
  have HH24 := HH15.on hbr23
  refine ⟨_, rfl, fun a_25 HE26 => hK23 _ _ ?_⟩
  refine pl_x HE26 HH24 (wt0 rfl) (show XS _ _ _ _ (.agg #[.int .i64 (0), .int .i64 ((List.length (splitR 59 a0) : Int)), .slice none (0) 0]) from x_build (vs := [(1, .int .i64 ((List.length (splitR 59 a0) : Int)))]) tb_24 rfl (by simp [Value.oneCell'])) rfl rfl fun a_27 HE28 => ?_
  refine pl fun K_29 hK30 => ?_
  refine st_alloc HE28 HH24 tv_24 (wt0 rfl) rfl fun q24 a_31 w' HE32 HH33 => hK30 _ _ ?_
  refine pl fun K_34 hK35 => ?_
  refine st_store (vs := [.int .i64 (0), .int .i64 ((List.length (splitR 59 a0) : Int)), .slice none (0) 0]) 0 HE32 HH33 tv_24 rfl rfl rfl rfl rfl rfl (by simp [Value.oneCell']) (wt0 rfl) fun w' HH36 => hK35 _ _ ?_
  refine wpList_nil ?_
  clear a_18 HE19 HH15 a_20 HE21 a_25 HE26 K_22 hK23 a_27 HE28 HH24 K_29 hK30 HH33 hK35 K_34
  refine nrm ?_
  refine wp_seq ?_
  refine wp_seq ?_
  refine rg ?_
  refine pl_x HE32 HH36 (wt0 rfl) (x_move rfl) rfl rfl fun a_37 HE38 => ?_
  refine pl_x HE38 HH36 (wt0 rfl) (x_len Tryz.underlying30 rfl) rfl rfl fun a_39 HE40 => ?_
  refine pl_x HE40 HH36 (wt0 rfl) (x_move rfl) rfl rfl fun a_41 HE42 => ?_
  refine wpList_nil ?_
  clear a_31 HE32 a_37 HE38 a_39 HE40
  refine nrm ?_
  refine wp_block ?_
  have HH43 := HH36.vecNil eRule 34
  refine lp (fun m a w' => ∃ (k : Nat) (A_5_2 : Option Addr) (c_5_2 : Nat) (S_5_2 : Nat → Prop), m = List.length (splitR 59 a0) - k ∧ Env 53 [(18, .int .i64 (k : Int)), (0, .string (bs a0)), (2, .pointer (some ⟨q21, 0, none⟩)), (5, .pointer (some ⟨q24, 0, none⟩)), (16, .slice Ar22_0 ((splitR 59 a0).length) cr22_0), (17, .int .i64 (((splitR 59 a0).length : Int)))] a ∧ Held Nob w [rVec eRule 34 S_5_2 A_5_2 c_5_2 (rlF (splitR 59 a0) k), rBlk q24 24 [.int .i64 (syI (splitR 59 a0) k), .int .i64 (List.length (splitR 59 a0) : Int), .slice A_5_2 (List.length (rlF (splitR 59 a0) k)) c_5_2], rSo eTxt Sr22 Ar22_0 cr22_0 (splitR 59 a0), rBlk q21 24 [.int .i64 (0), .int .i64 (0), .slice none (0) 0]] w' ∧ (k ≤ List.length (splitR 59 a0))) (List.length (splitR 59 a0) - (0)) ?_ ?_
  · have E25 : rlF (splitR 59 a0) 0 = [] := by
      rfl
    have E26 : (syI (splitR 59 a0) 0) = 0 := by rfl
    exact ⟨0, none, 0, Nob, rfl, HE42.sub ⟨(lkI rfl (by first | rfl | omega | (simp []; done))), rfl, rfl, rfl, rfl, rfl, trivial⟩, ((HH43.sel [0, 1, 2, 3] (by decide) rfl).to (by first | rfl | (rw [E25, E26]; done) | (rw [E25, E26]; rfl) | (simp only [E25, E26]; done) | (simp only [E25, E26]; rfl) | (rw [E25, E26]; simp only [List.length_set]; done))), (by first | omega | assumption | (simp; done) | simp_all)⟩
  · rintro m a_44 w' ⟨k, A_5_2, c_5_2, S_5_2, rfl, HE45, HH46, p27_0⟩
    refine wp_seq ?_
    refine rg ?_
    refine pl_x HE45 HH46 (wt0 rfl) (x_lss rfl rfl) rfl rfl fun a_47 HE48 => ?_
    refine wpList_nil ?_
    clear HH36 a_41 HE42 HH43 a_44 HE45
    refine nrm ?_
    refine wp_seq ?_
    refine cnd_d HE48 rfl (fun hc28 => ?_) (fun hc28 => ?_)
    · refine wp_skip ?_
      refine nrm ?_
      refine wp_seq ?_
      refine wp_block ?_
      refine wp_seq ?_
      refine rg ?_
      have ke29 : k < (splitR 59 a0).length := by omega
      obtain ⟨be29, fe29, rfl⟩ := el_own HH46 (i := 2) rfl ke29
      refine pl_x HE48 HH46 (wt0 rfl) (x_indexAddr ts_30 rfl rfl rfl rfl ke29) rfl rfl fun a_49 HE50 => ?_
      obtain ⟨y30, xy30⟩ : ∃ y_, y_ = (splitR 59 a0)[k]'(by first | exact ke29 | (simp only [List.length_set]; exact ke29) | omega | (simp only [List.length_set]; omega) | (simp; omega)) := ⟨_, rfl⟩
      have jy30 : List.length y30 ≤ 9223372036854775807 := by rw [xy30]; exact i_ownS HH46 2 rfl _
      have hsk := xy30
      have hpy30 := splitR_piece 59 a0 y30 (by rw [xy30]; exact List.getElem_mem _)
      have hqy30 := splitR_len 44 y30
      refine pl_x HE50 HH46 (wt0 rfl) (x_load1 tv_9 rfl (c_ownS 2 rfl (by first | exact ke29 | (simp only [List.length_set]; exact ke29) | omega | (simp only [List.length_set]; omega) | (simp; omega)) xy30.symm)) rfl rfl fun a_51 HE52 => ?_
      refine pl_x HE52 HH46 (wt0 rfl) (x_assign rfl) rfl rfl fun a_53 HE54 => ?_
      refine wpList_nil ?_
      clear a_47 HE48 a_49 HE50 a_51 HE52
      refine nrm ?_
      refine wp_seq ?_
      refine rg ?_
      refine pl_x HE54 HH46 (wt0 rfl) (x_move rfl) rfl rfl fun a_55 HE56 => ?_
      refine pl fun K_57 hK58 => ?_
      refine st_call HE56 (wt0 rfl) rfl rfl rfl en_10 rfl rfl (Split_1 y30 ([44]) 44 _ (HH46.glob2 hG) (by omega) (by rfl)) fun e w' hr => ?_
      have hAr31_0 := splitR_len 44 y30
      have hAr31_1 := splitR_piece 44 y30
      obtain ⟨Ar31_0, cr31_0, rfl, hor31_0, hbr31⟩ := hr
      obtain ⟨Sr31, HH59⟩ := HH46.newS hbr31 hor31_0
      refine ⟨_, rfl, fun a_60 HE61 => hK58 _ _ ?_⟩
      refine pl_x HE61 HH59 (wt0 rfl) (x_assign rfl) rfl rfl fun a_62 HE63 => ?_
      refine wpList_nil ?_
      clear a_53 HE54 HH46 a_55 HE56 a_60 HE61 hK58 K_57
      refine nrm ?_
      refine wp_seq ?_
      refine rg ?_
      refine pl_x HE63 HH59 (wt0 rfl) (x_move rfl) rfl rfl fun a_64 HE65 => ?_
      refine pl fun K_66 hK67 => ?_
      refine st_call HE65 (wt0 rfl) rfl rfl rfl en_11 rfl rfl (impl_size_Txt _ _ (splitR 44 y30) _ (HH59.sl (i := 0) rfl)) fun e w' hr => ?_
      obtain ⟨rfl, hbr32⟩ := hr
      have HH68 := HH59.on hbr32
      refine ⟨_, rfl, fun a_69 HE70 => hK67 _ _ ?_⟩
      refine pl_x HE70 HH68 (wt0 rfl) (x_fieldAddr fa_24_0 rfl) rfl rfl fun a_71 HE72 => ?_
      refine pl fun K_73 hK74 => ?_
      refine st_store (vs := [.int .i64 ((List.length (splitR 44 y30) : Int))]) 2 HE72 HH68 tv_2 rfl rfl rfl rfl rfl rfl (by simp [Value.oneCell']) (wt0 rfl) fun w' HH75 => hK74 _ _ ?_
      refine wpList_nil ?_
      clear a_62 HE63 HH59 a_64 HE65 a_69 HE70 K_66 hK67 HH68 hK74 K_73
      refine nrm ?_
      refine wp_seq ?_
      refine rg ?_
      refine pl_x HE72 HH75 (wt0 rfl) (x_move rfl) rfl rfl fun a_76 HE77 => ?_
      refine pl_x HE77 HH75 (wt0 rfl) (x_len Tryz.underlying30 rfl) rfl rfl fun a_78 HE79 => ?_
      refine pl_x HE79 HH75 (wt0 rfl) (x_move rfl) rfl rfl fun a_80 HE81 => ?_
      refine wpList_nil ?_
      clear a_71 HE72 a_76 HE77 a_78 HE79
      refine nrm ?_
      refine wp_block ?_
      refine lp (fun m a w' => ∃ (j : Nat) (A_5_2 : Option Addr) (c_5_2 : Nat) (S_5_2 : Nat → Prop), m = List.length (splitR 44 y30) - j ∧ Env 53 [(29, .int .i64 (j : Int)), (0, .string (bs a0)), (2, .pointer (some ⟨q21, 0, none⟩)), (5, .pointer (some ⟨q24, 0, none⟩)), (16, .slice (some ⟨be29, fe29, none⟩) ((splitR 59 a0).length) cr22_0), (17, .int .i64 (((splitR 59 a0).length : Int))), (18, .int .i64 ((k : Int))), (27, .slice Ar31_0 ((splitR 44 y30).length) cr31_0), (28, .int .i64 (((splitR 44 y30).length : Int)))] a ∧ Held Nob w [rVec eRule 34 S_5_2 A_5_2 c_5_2 (rlF (splitR 59 a0) k ++ (List.take j (splitR 44 y30)).map readRl), rBlk q24 24 [.int .i64 (List.length (splitR 44 y30) : Int), .int .i64 (List.length (splitR 59 a0) : Int), .slice A_5_2 (List.length (rlF (splitR 59 a0) k ++ (List.take j (splitR 44 y30)).map readRl)) c_5_2], rSo eTxt Sr31 Ar31_0 cr31_0 (splitR 44 y30), rSo eTxt Sr22 (some ⟨be29, fe29, none⟩) cr22_0 (splitR 59 a0), rBlk q21 24 [.int .i64 (0), .int .i64 (0), .slice none (0) 0]] w' ∧ (j ≤ List.length (splitR 44 y30))) (List.length (splitR 44 y30) - (0)) ?_ ?_
      · have E33 : rlF (splitR 59 a0) k ++ (List.take 0 (splitR 44 y30)).map readRl = rlF (splitR 59 a0) k := by
          simp
        exact ⟨0, A_5_2, c_5_2, S_5_2, rfl, HE81.sub ⟨(lkI rfl (by first | rfl | omega | (simp [p27_0, hc28, xy30]; done))), rfl, rfl, rfl, rfl, rfl, rfl, rfl, rfl, trivial⟩, ((HH75.sel [1, 2, 0, 3, 4] (by decide) rfl).to (by first | rfl | (rw [E33]; done) | (rw [E33]; rfl) | (simp only [E33]; done) | (simp only [E33]; rfl) | (rw [E33]; simp only [List.length_set]; done))), (by first | omega | assumption | (simp; done) | simp_all)⟩
      · rintro m a_82 w' ⟨j, A_5_2, c_5_2, S_5_2, rfl, HE83, HH84, p34_0⟩
        have hb0 := rlF_len s0 k
        have hb1 : (rlF (splitR 59 a0) k ++ (List.take j (splitR 44 y30)).map readRl).length ≤ 4000006000002 := by rw [List.length_append, List.length_map, List.length_take]; omega
        refine wp_seq ?_
        refine rg ?_
        refine pl_x HE83 HH84 (wt0 rfl) (x_lss rfl rfl) rfl rfl fun a_85 HE86 => ?_
        refine wpList_nil ?_
        clear a_80 HE81 HH75 a_82 HE83
        refine nrm ?_
        refine wp_seq ?_
        refine cnd_d HE86 rfl (fun hc35 => ?_) (fun hc35 => ?_)
        · refine wp_skip ?_
          refine nrm ?_
          refine wp_seq ?_
          refine wp_block ?_
          refine wp_seq ?_
          refine rg ?_
          have ke36 : j < (splitR 44 y30).length := by omega
          obtain ⟨be36, fe36, rfl⟩ := el_own HH84 (i := 2) rfl ke36
          refine pl_x HE86 HH84 (wt0 rfl) (x_indexAddr ts_30 rfl rfl rfl rfl ke36) rfl rfl fun a_87 HE88 => ?_
          obtain ⟨y37, xy37⟩ : ∃ y_, y_ = (splitR 44 y30)[j]'(by first | exact ke36 | (simp only [List.length_set]; exact ke36) | omega | (simp only [List.length_set]; omega) | (simp; omega)) := ⟨_, rfl⟩
          have jy37 : List.length y37 ≤ 9223372036854775807 := by rw [xy37]; exact i_ownS HH84 2 rfl _
          have hwj := xy37
          have hpy37 := splitR_piece 44 _ y37 (by rw [xy37]; exact List.getElem_mem _)
          refine pl_x HE88 HH84 (wt0 rfl) (x_load1 tv_9 rfl (c_ownS 2 rfl (by first | exact ke36 | (simp only [List.length_set]; exact ke36) | omega | (simp only [List.length_set]; omega) | (simp; omega)) xy37.symm)) rfl rfl fun a_89 HE90 => ?_
          refine pl_x HE90 HH84 (wt0 rfl) (x_assign rfl) rfl rfl fun a_91 HE92 => ?_
          refine wpList_nil ?_
          clear a_85 HE86 a_87 HE88 a_89 HE90
          refine nrm ?_
          refine wp_join (fun a w' => ∃ (S42 : Nat → Prop), ∃ (A40 : Option Addr), ∃ (c41 : Nat), Env 53 [(0, .string (bs a0)), (2, .pointer (some ⟨q21, 0, none⟩)), (5, .pointer (some ⟨q24, 0, none⟩)), (16, .slice (some ⟨be29, fe29, none⟩) ((splitR 59 a0).length) cr22_0), (17, .int .i64 (((splitR 59 a0).length : Int))), (18, .int .i64 ((k : Int))), (27, .slice (some ⟨be36, fe36, none⟩) ((splitR 44 y30).length) cr31_0), (28, .int .i64 (((splitR 44 y30).length : Int))), (29, .int .i64 ((j : Int)))] a ∧ Held Nob w [rVec eRule 34 S42 A40 c41 (rlF (splitR 59 a0) k ++ (List.take j (splitR 44 y30)).map readRl ++ [((readRl y37).1, (readRl y37).2.1, (readRl y37).2.2)]), rBlk q24 24 [.int .i64 ((List.length (splitR 44 y30) : Int)), .int .i64 ((List.length (splitR 59 a0) : Int)), .slice A40 ((rlF (splitR 59 a0) k ++ (List.take j (splitR 44 y30)).map readRl ++ [((readRl y37).1, (readRl y37).2.1, (readRl y37).2.2)]).length) c41], rSo eTxt Sr31 (some ⟨be36, fe36, none⟩) cr31_0 (splitR 44 y30), rSo eTxt Sr22 (some ⟨be29, fe29, none⟩) cr22_0 (splitR 59 a0), rBlk q21 24 [.int .i64 (0), .int .i64 (0), .slice none (0) 0]] w') ?_ ?_
          · refine dr_start (Held Nob w [rSo eTxt Sr31 (some ⟨be36, fe36, none⟩) cr31_0 (splitR 44 y30), rSo eTxt Sr22 (some ⟨be29, fe29, none⟩) cr22_0 (splitR 59 a0), rBlk q21 24 [.int .i64 (0), .int .i64 (0), .slice none (0) 0]]) 8 #[false, false, false, false, false, false, false, false] hmix rfl rfl HH84 (fun _ h => h.sel [2, 3, 4] (by decide) rfl) fun w' HH93 => ?_
            have HS94 := HH93.sel [2, 3, 4] (by decide) rfl
            refine dr_take (i := 0) (ls' := #[true, false, false, false, false, false, false, false]) HE92 HS94 rfl (by kernel_rfl) (by kernel_rfl) (by kernel_rfl) (fun _ _ _ h => h) rfl (wt0 rfl) (x_fieldAddr fa_24_2 rfl) rfl rfl fun a_95 HE96 => ?_
            refine dr_take (i := 2) (ls' := #[true, false, true, false, false, false, false, false]) HE96 HS94 rfl (by kernel_rfl) (by kernel_rfl) (by kernel_rfl) (fun _ _ _ h => h) rfl (wt0 rfl) (x_move rfl) rfl rfl fun a_97 HE98 => ?_
            refine dr_two (i := 1) (j := 3) (ls' := #[true, true, true, false, false, false, false, false]) (ls'' := #[true, false, true, true, false, false, false, false]) rfl rfl (by kernel_rfl) rfl rfl (fun K_99 hK100 => ?_) (fun K_99 hK100 => ?_)
            · refine st_x HE98 HH93 (wt0 rfl) (x_load1 tv_22 rfl (c_blk 1 rfl rfl)) rfl rfl fun a_101 HE102 => hK100 _ _ HS94 ?_
              refine dr_one (i := 3) (ls' := #[true, true, true, true, false, false, false, false]) rfl (by kernel_rfl) rfl fun K_103 hK104 => ?_
              refine st_call HE102 (wt0 rfl) rfl rfl rfl en_12 rfl rfl (impl_readRule y37 _ (HH93.glob2 hG) (by omega)) fun e w' hr => ?_
              obtain ⟨esr38_0, rfl, hor38_0, hbr38⟩ := hr
              have hr := eRule.read hor38_0
              obtain ⟨Sr38, HH105⟩ := HH93.newO hbr38 hor38_0
              obtain ⟨rfl, gr38_0_0, gr38_0_1, gr38_0_2⟩ := shape_Rule hr
              have jr38_0_0 := gr38_0_0; unfold I64 at jr38_0_0
              have jr38_0_1 := gr38_0_1; unfold I64 at jr38_0_1
              have jr38_0_2 := gr38_0_2; unfold I64 at jr38_0_2
              have HH106 := HH105.sel [1, 2, 3, 4, 5] (by decide) rfl
              refine ⟨_, rfl, fun a_107 HE108 => hK104 _ _ (by exact HH106.sel [2, 3, 4] (by decide) rfl) ?_⟩
              have HS109 := HH106.sel [2, 3, 4] (by decide) rfl
              refine dr_one (i := 4) (ls' := #[true, true, true, true, true, false, false, false]) rfl (by kernel_rfl) rfl fun K_110 hK111 => ?_
              refine st_lit (m := 1) (cs := [.int .i64 ((readRl y37).1), .int .i64 ((readRl y37).2.1), .int .i64 ((readRl y37).2.2)]) (e := 34) HE108 HH106 (run_lit ts_22 HE108 (vs := [.agg #[.int .i64 ((readRl y37).1), .int .i64 ((readRl y37).2.1), .int .i64 ((readRl y37).2.2)]]) rfl rfl (by simp [Value.cells]) rfl (by decide)) (wt0 rfl) rfl rfl fun q39 a_112 w' HE113 HH114 => hK111 _ _ (by exact HH114.sel [3, 4, 5] (by decide) rfl) ?_
              have HS115 := HH114.sel [3, 4, 5] (by decide) rfl
              refine dr_one (i := 5) (ls' := #[true, true, true, true, true, true, false, false]) rfl (by kernel_rfl) rfl fun K_116 hK117 => ?_
              refine st_app1F ((readRl y37).1, (readRl y37).2.1, (readRl y37).2.2) HE113 HH114 ts_22 [1, 0, 2, 3, 4, 5] (by decide) rfl (fun _ => (oPrN (oI (by exact ⟨by omega, by omega⟩)) (oPrN (oI (by exact ⟨by omega, by omega⟩)) (oI (by exact ⟨by omega, by omega⟩))))) rfl rfl (by simp [Value.oneCell']) (by unfold maxLen; first | omega | (simp; done) | (simp; omega)) (by first | omega | (simp; done) | (simp; omega)) (wt0 rfl) rfl fun A40 c41 S42 a_118 w' HE119 HH120 => hK117 _ _ (by exact HH120.sel [2, 3, 4] (by decide) rfl) ?_
              have HS121 := HH120.sel [2, 3, 4] (by decide) rfl
              refine dr_take (i := 6) (ls' := #[true, true, true, true, true, true, true, false]) HE119 HS121 rfl (by kernel_rfl) (by kernel_rfl) (by kernel_rfl) (fun _ _ _ h => h) rfl (wt0 rfl) (x_fieldAddr fa_24_2 rfl) rfl rfl fun a_122 HE123 => ?_
              refine dr_one (i := 7) (ls' := #[true, true, true, true, true, true, true, true]) rfl (by kernel_rfl) rfl fun K_124 hK125 => ?_
              refine st_store (vs := [.slice A40 ((rlF (splitR 59 a0) k ++ (List.take j (splitR 44 y30)).map readRl ++ [((readRl y37).1, (readRl y37).2.1, (readRl y37).2.2)]).length) c41]) 1 HE123 HH120 tv_22 rfl rfl rfl rfl rfl rfl (by simp [Value.oneCell']) (wt0 rfl) fun w' HH126 => hK125 _ _ (by exact HH126.sel [2, 3, 4] (by decide) rfl) ?_
              have HS127 := HH126.sel [2, 3, 4] (by decide) rfl
              refine dr_done (by kernel_rfl) ?_
              clear HH84 a_91 HE92 a_95 HE96 a_97 HE98 K_99 hK100 HH93 HH105 a_101 HE102 HS94 K_103 hK104 a_107 HE108 HH106 HS109 K_110 hK111 a_112 HE113 HH114 HS115 a_118 HE119 K_116 hK117 HH120 HS121 hK125 K_124
              exact nrm ⟨_, _, _, HE123.sub ⟨rfl, rfl, rfl, rfl, rfl, rfl, rfl, rfl, rfl, trivial⟩, HH126.sel [0, 1, 2, 3, 4] (by decide) rfl⟩
            · refine st_call HE98 (wt0 rfl) rfl rfl rfl en_12 rfl rfl (impl_readRule y37 _ (HH93.glob2 hG) (by omega)) fun e w' hr => ?_
              obtain ⟨esr43_0, rfl, hor43_0, hbr43⟩ := hr
              have hr := eRule.read hor43_0
              obtain ⟨Sr43, HH128⟩ := HH93.newO hbr43 hor43_0
              obtain ⟨rfl, gr43_0_0, gr43_0_1, gr43_0_2⟩ := shape_Rule hr
              have jr43_0_0 := gr43_0_0; unfold I64 at jr43_0_0
              have jr43_0_1 := gr43_0_1; unfold I64 at jr43_0_1
              have jr43_0_2 := gr43_0_2; unfold I64 at jr43_0_2
              have HH129 := HH128.sel [1, 2, 3, 4, 5] (by decide) rfl
              refine ⟨_, rfl, fun a_130 HE131 => hK100 _ _ (by exact HH129.sel [2, 3, 4] (by decide) rfl) ?_⟩
              have HS132 := HH129.sel [2, 3, 4] (by decide) rfl
              refine dr_two (i := 1) (j := 4) (ls' := #[true, true, true, true, false, false, false, false]) (ls'' := #[true, false, true, true, true, false, false, false]) rfl rfl (by kernel_rfl) rfl rfl (fun K_133 hK134 => ?_) (fun K_133 hK134 => ?_)
              · refine st_x HE131 HH129 (wt0 rfl) (x_load1 tv_22 rfl (c_blk 1 rfl rfl)) rfl rfl fun a_135 HE136 => hK134 _ _ HS132 ?_
                refine dr_one (i := 4) (ls' := #[true, true, true, true, true, false, false, false]) rfl (by kernel_rfl) rfl fun K_137 hK138 => ?_
                refine st_lit (m := 1) (cs := [.int .i64 ((readRl y37).1), .int .i64 ((readRl y37).2.1), .int .i64 ((readRl y37).2.2)]) (e := 34) HE136 HH129 (run_lit ts_22 HE136 (vs := [.agg #[.int .i64 ((readRl y37).1), .int .i64 ((readRl y37).2.1), .int .i64 ((readRl y37).2.2)]]) rfl rfl (by simp [Value.cells]) rfl (by decide)) (wt0 rfl) rfl rfl fun q44 a_139 w' HE140 HH141 => hK138 _ _ (by exact HH141.sel [3, 4, 5] (by decide) rfl) ?_
                have HS142 := HH141.sel [3, 4, 5] (by decide) rfl
                refine dr_one (i := 5) (ls' := #[true, true, true, true, true, true, false, false]) rfl (by kernel_rfl) rfl fun K_143 hK144 => ?_
                refine st_app1F ((readRl y37).1, (readRl y37).2.1, (readRl y37).2.2) HE140 HH141 ts_22 [1, 0, 2, 3, 4, 5] (by decide) rfl (fun _ => (oPrN (oI (by exact ⟨by omega, by omega⟩)) (oPrN (oI (by exact ⟨by omega, by omega⟩)) (oI (by exact ⟨by omega, by omega⟩))))) rfl rfl (by simp [Value.oneCell']) (by unfold maxLen; first | omega | (simp; done) | (simp; omega)) (by first | omega | (simp; done) | (simp; omega)) (wt0 rfl) rfl fun A45 c46 S47 a_145 w' HE146 HH147 => hK144 _ _ (by exact HH147.sel [2, 3, 4] (by decide) rfl) ?_
                have HS148 := HH147.sel [2, 3, 4] (by decide) rfl
                refine dr_take (i := 6) (ls' := #[true, true, true, true, true, true, true, false]) HE146 HS148 rfl (by kernel_rfl) (by kernel_rfl) (by kernel_rfl) (fun _ _ _ h => h) rfl (wt0 rfl) (x_fieldAddr fa_24_2 rfl) rfl rfl fun a_149 HE150 => ?_
                refine dr_one (i := 7) (ls' := #[true, true, true, true, true, true, true, true]) rfl (by kernel_rfl) rfl fun K_151 hK152 => ?_
                refine st_store (vs := [.slice A45 ((rlF (splitR 59 a0) k ++ (List.take j (splitR 44 y30)).map readRl ++ [((readRl y37).1, (readRl y37).2.1, (readRl y37).2.2)]).length) c46]) 1 HE150 HH147 tv_22 rfl rfl rfl rfl rfl rfl (by simp [Value.oneCell']) (wt0 rfl) fun w' HH153 => hK152 _ _ (by exact HH153.sel [2, 3, 4] (by decide) rfl) ?_
                have HS154 := HH153.sel [2, 3, 4] (by decide) rfl
                refine dr_done (by kernel_rfl) ?_
                clear HH84 a_91 HE92 a_95 HE96 HH93 HH128 a_97 HE98 HS94 K_99 hK100 a_130 HE131 K_133 hK134 a_135 HE136 HH129 HS132 K_137 hK138 a_139 HE140 HH141 HS142 a_145 HE146 K_143 hK144 HH147 HS148 hK152 K_151
                exact nrm ⟨_, _, _, HE150.sub ⟨rfl, rfl, rfl, rfl, rfl, rfl, rfl, rfl, rfl, trivial⟩, HH153.sel [0, 1, 2, 3, 4] (by decide) rfl⟩
              · refine st_lit (m := 1) (cs := [.int .i64 ((readRl y37).1), .int .i64 ((readRl y37).2.1), .int .i64 ((readRl y37).2.2)]) (e := 34) HE131 HH129 (run_lit ts_22 HE131 (vs := [.agg #[.int .i64 ((readRl y37).1), .int .i64 ((readRl y37).2.1), .int .i64 ((readRl y37).2.2)]]) rfl rfl (by simp [Value.cells]) rfl (by decide)) (wt0 rfl) rfl rfl fun q48 a_155 w' HE156 HH157 => hK134 _ _ (by exact HH157.sel [3, 4, 5] (by decide) rfl) ?_
                have HS158 := HH157.sel [3, 4, 5] (by decide) rfl
                refine dr_one (i := 1) (ls' := #[true, true, true, true, true, false, false, false]) rfl (by kernel_rfl) rfl fun K_159 hK160 => ?_
                refine st_x HE156 HH157 (wt0 rfl) (x_load1 tv_22 rfl (c_blk 2 rfl rfl)) rfl rfl fun a_161 HE162 => hK160 _ _ HS158 ?_
                refine dr_one (i := 5) (ls' := #[true, true, true, true, true, true, false, false]) rfl (by kernel_rfl) rfl fun K_163 hK164 => ?_
                refine st_app1F ((readRl y37).1, (readRl y37).2.1, (readRl y37).2.2) HE162 HH157 ts_22 [1, 0, 2, 3, 4, 5] (by decide) rfl (fun _ => (oPrN (oI (by exact ⟨by omega, by omega⟩)) (oPrN (oI (by exact ⟨by omega, by omega⟩)) (oI (by exact ⟨by omega, by omega⟩))))) rfl rfl (by simp [Value.oneCell']) (by unfold maxLen; first | omega | (simp; done) | (simp; omega)) (by first | omega | (simp; done) | (simp; omega)) (wt0 rfl) rfl fun A49 c50 S51 a_165 w' HE166 HH167 => hK164 _ _ (by exact HH167.sel [2, 3, 4] (by decide) rfl) ?_
                have HS168 := HH167.sel [2, 3, 4] (by decide) rfl
                refine dr_take (i := 6) (ls' := #[true, true, true, true, true, true, true, false]) HE166 HS168 rfl (by kernel_rfl) (by kernel_rfl) (by kernel_rfl) (fun _ _ _ h => h) rfl (wt0 rfl) (x_fieldAddr fa_24_2 rfl) rfl rfl fun a_169 HE170 => ?_
                refine dr_one (i := 7) (ls' := #[true, true, true, true, true, true, true, true]) rfl (by kernel_rfl) rfl fun K_171 hK172 => ?_
                refine st_store (vs := [.slice A49 ((rlF (splitR 59 a0) k ++ (List.take j (splitR 44 y30)).map readRl ++ [((readRl y37).1, (readRl y37).2.1, (readRl y37).2.2)]).length) c50]) 1 HE170 HH167 tv_22 rfl rfl rfl rfl rfl rfl (by simp [Value.oneCell']) (wt0 rfl) fun w' HH173 => hK172 _ _ (by exact HH173.sel [2, 3, 4] (by decide) rfl) ?_
                have HS174 := HH173.sel [2, 3, 4] (by decide) rfl
                refine dr_done (by kernel_rfl) ?_
                clear HH84 a_91 HE92 a_95 HE96 HH93 HH128 a_97 HE98 HS94 K_99 hK100 a_130 HE131 HH129 HS132 K_133 hK134 a_155 HE156 K_159 hK160 a_161 HE162 HH157 HS158 a_165 HE166 K_163 hK164 HH167 HS168 hK172 K_171
                exact nrm ⟨_, _, _, HE170.sub ⟨rfl, rfl, rfl, rfl, rfl, rfl, rfl, rfl, rfl, trivial⟩, HH173.sel [0, 1, 2, 3, 4] (by decide) rfl⟩
          · rintro a_175 w' ⟨S42, A40, c41, HE176, HH177⟩
            refine blk_n ?_
            refine nrm ?_
            refine rg ?_
            refine pl_x HE176 HH177 (wt0 rfl) (x_add rfl rfl (by exact ⟨by omega, by omega⟩)) rfl rfl fun a_178 HE179 => ?_
            refine pl_x HE179 HH177 (wt0 rfl) (x_move rfl) rfl rfl fun a_180 HE181 => ?_
            refine wpList_nil ?_
            clear a_91 HE92 HH84 a_175 HE176 a_178 HE179
            have E52 : rlF (splitR 59 a0) k ++ (List.take (j + 1) (splitR 44 y30)).map readRl = (rlF (splitR 59 a0) k ++ (List.take j (splitR 44 y30)).map readRl ++ [((readRl y37).1, (readRl y37).2.1, (readRl y37).2.2)]) := by
              rw [List.take_succ_eq_append_getElem (by omega), List.map_append, ← hwj, List.append_assoc]; rfl
            exact nrm ⟨List.length (splitR 44 y30) - (j + 1), (by omega), j + 1, A40, c41, S42, rfl, HE181.sub ⟨(lkI rfl (by first | rfl | omega | (simp [p27_0, hc28, xy30, p34_0, hc35, xy37]; done))), rfl, rfl, rfl, rfl, rfl, rfl, rfl, rfl, trivial⟩, ((HH177.sel [0, 1, 2, 3, 4] (by decide) rfl).to (by first | rfl | (rw [E52]; done) | (rw [E52]; rfl) | (simp only [E52]; done) | (simp only [E52]; rfl) | (rw [E52]; simp only [List.length_set]; done))), (by first | omega | assumption | (simp; done) | simp_all)⟩
        · refine wp_exit ?_
          refine (thn_exit (thn_exit (blk_hit ?_)))
          refine blk_n ?_
          refine nrm ?_
          refine rg ?_
          refine pl_x HE86 HH84 (wt0 rfl) (x_add rfl rfl (by exact ⟨by omega, by omega⟩)) rfl rfl fun a_182 HE183 => ?_
          refine pl_x HE183 HH84 (wt0 rfl) (x_move rfl) rfl rfl fun a_184 HE185 => ?_
          refine wpList_nil ?_
          clear a_85 HE86 a_182 HE183
          have E53 : rlF (splitR 59 a0) (k + 1) = rlF (splitR 59 a0) k ++ (List.take j (splitR 44 y30)).map readRl := by
            rw [List.take_of_length_le (by omega)]; exact rlF_snoc hsk
          have E54 : (syI (splitR 59 a0) (k + 1)) = (List.length (splitR 44 y30) : Int) := by exact syI_succ hsk
          exact nrm ⟨List.length (splitR 59 a0) - (k + 1), (by omega), k + 1, A_5_2, c_5_2, S_5_2, rfl, HE185.sub ⟨(lkI rfl (by first | rfl | omega | (simp [p27_0, hc28, xy30, p34_0, hc35]; done))), rfl, rfl, rfl, rfl, rfl, trivial⟩, ((HH84.sel [0, 1, 3, 4] (by decide) rfl).to (by first | rfl | (rw [E53, E54]; done) | (rw [E53, E54]; rfl) | (simp only [E53, E54]; done) | (simp only [E53, E54]; rfl) | (rw [E53, E54]; simp only [List.length_set]; done))), (by first | omega | assumption | (simp; done) | simp_all)⟩
    · have hM := maI_full (s := a0) (k := k) (by omega) (by omega)
      have hsb := syI_bd s0 k
      refine wp_exit ?_
      refine (thn_exit (thn_exit (blk_hit ?_)))
      refine nrm ?_
      refine wp_seq ?_
      refine wp_seq ?_
      refine rg ?_
      refine pl_x HE48 HH46 (wt0 rfl) (x_loadN (cs := [.int .i64 ((syI (splitR 59 a0) k)), .int .i64 ((List.length (splitR 59 a0) : Int)), .slice A_5_2 ((List.length (rlF (splitR 59 a0) k))) c_5_2]) tv_24 rfl rfl (c_blkN 1 rfl)) rfl rfl fun a_186 HE187 => ?_
      refine pl fun K_188 hK189 => ?_
      refine st_call HE187 (wt0 rfl) rfl rfl rfl en_13 rfl rfl (impl_ValidMachine [.int .i64 ((syI (splitR 59 a0) k)), .int .i64 ((List.length (splitR 59 a0) : Int)), .slice A_5_2 ((List.length (rlF (splitR 59 a0) k))) c_5_2] ((syI (splitR 59 a0) k), (List.length (splitR 59 a0) : Int), rlF (splitR 59 a0) k) _ (rep_Machine (x := ((syI (splitR 59 a0) k), (List.length (splitR 59 a0) : Int), rlF (splitR 59 a0) k)) (by first | exact ⟨by omega, by omega⟩ | (dsimp only; exact ⟨by omega, by omega⟩)) (by first | exact ⟨by omega, by omega⟩ | (dsimp only; exact ⟨by omega, by omega⟩)) (HH46.vecSl (i := 0) rfl))) fun e w' hr => ?_
      obtain ⟨rfl, hbr55⟩ := hr
      have HH190 := HH46.on hbr55
      refine ⟨_, rfl, fun a_191 HE192 => hK189 _ _ ?_⟩
      refine pl_x HE192 HH190 (wt0 rfl) (x_not rfl) rfl rfl fun a_193 HE194 => ?_
      refine pl_x HE194 HH190 (wt0 rfl) (x_move rfl) rfl rfl fun a_195 HE196 => ?_
      rcases Bool.eq_false_or_eq_true ((validMach ((syI (splitR 59 a0) k), (List.length (splitR 59 a0) : Int), rlF (splitR 59 a0) k))) with hc56 | hc56
      · refine pl_x HE196 HH190 (wtT HE196 rfl rfl rfl (not_f hc56)) (x_loadN (cs := [.int .i64 ((syI (splitR 59 a0) k)), .int .i64 ((List.length (splitR 59 a0) : Int)), .slice A_5_2 ((List.length (rlF (splitR 59 a0) k))) c_5_2]) tv_24 rfl rfl (c_blkN 1 rfl)) rfl rfl fun a_197 HE198 => ?_
        refine pl fun K_199 hK200 => ?_
        refine st_call HE198 (wtT HE198 rfl rfl rfl (not_f hc56)) rfl rfl rfl en_14 rfl rfl (impl_MachineText [.int .i64 ((syI (splitR 59 a0) k)), .int .i64 ((List.length (splitR 59 a0) : Int)), .slice A_5_2 ((List.length (rlF (splitR 59 a0) k))) c_5_2] ((syI (splitR 59 a0) k), (List.length (splitR 59 a0) : Int), rlF (splitR 59 a0) k) _ (rep_Machine (x := ((syI (splitR 59 a0) k), (List.length (splitR 59 a0) : Int), rlF (splitR 59 a0) k)) (by first | exact ⟨by omega, by omega⟩ | (dsimp only; exact ⟨by omega, by omega⟩)) (by first | exact ⟨by omega, by omega⟩ | (dsimp only; exact ⟨by omega, by omega⟩)) (HH190.vecSl (i := 0) rfl)) (HH190.glob hG.1)) fun e w' hr => ?_
        have hAr57_0 := machText_len ((syI (splitR 59 a0) k), (List.length (splitR 59 a0) : Int), rlF (splitR 59 a0) k)
        obtain ⟨rfl, hbr57⟩ := hr
        have HH201 := HH190.on hbr57
        refine ⟨_, rfl, fun a_202 HE203 => hK200 _ _ ?_⟩
        refine pl_x HE203 HH201 (wtT HE203 rfl rfl rfl (not_f hc56)) (x_move rfl) rfl rfl fun a_204 HE205 => ?_
        refine pl_x HE205 HH201 (wtT HE205 rfl rfl rfl (not_f hc56)) (x_sneqB rfl rfl) rfl rfl fun a_206 HE207 => ?_
        refine pl_x HE207 HH201 (wt0 rfl) (x_pickF rfl (not_f hc56) rfl) rfl rfl fun a_208 HE209 => ?_
        refine wpList_nil ?_
        clear a_47 HE48 HH46 a_186 HE187 a_191 HE192 a_193 HE194 a_195 HE196 K_188 hK189 HH190 a_197 HE198 a_202 HE203 a_204 HE205 a_206 HE207 hK200 K_199
        refine nrm ?_
        refine cnd_nd HE209 rfl (fun hc58 => ?_) (fun hc58 => ?_)
        · refine wp_seq ?_
          refine rg ?_
          refine pl_x HE209 HH201 (wt0 rfl) (show XS _ _ _ _ (.agg #[.int .i64 (0), .int .i64 (0), .slice none (0) 0]) from x_build (vs := []) tb_24 rfl (by simp [Value.oneCell'])) rfl rfl fun a_210 HE211 => ?_
          refine pl fun K_212 hK213 => ?_
          refine st_store (vs := [.int .i64 (0), .int .i64 (0), .slice none (0) 0]) 3 HE211 HH201 tv_24 rfl rfl rfl rfl rfl rfl (by simp [Value.oneCell']) (wt0 rfl) fun w' HH214 => hK213 _ _ ?_
          refine pl_x HE211 HH214 (wt0 rfl) (x_assign rfl) rfl rfl fun a_215 HE216 => ?_
          refine wpList_nil ?_
          clear a_208 HE209 HH201 a_210 HE211 hK213 K_212
          refine nrm ?_
          refine wp_ret ?_
          refine (thn_ret ?_)
          refine ret2 HE216 rfl (rv_cell rfl (tv_24.loadN (cs := [.int .i64 (0), .int .i64 (0), .slice none (0) 0]) rfl (c_blkN 3 rfl _ HH214))) (rv_tmp rfl) ?_
          have HH217 := HH214.flatO (E := eMachine) (cs := [.int .i64 (0), .int .i64 (0), .slice none (0) 0]) (x := (0, 0, [])) (fun _ => (oPrN (oI (by exact ⟨by omega, by omega⟩)) (oPrN (oI (by exact ⟨by omega, by omega⟩)) (oSl (So.nil (Nat.zero_le _))))))
          have hF : (rdMaI a0) = ((0, 0, []), false) := by
            unfold rdMaI; rw [hM]; first | (rw [if_pos ⟨by assumption, by assumption⟩]; done) | (exact if_neg (fun hh => ff hh.1 (by assumption))) | (exact if_neg (fun hh => absurd hh.2 (by assumption)))
          exact ⟨_, by first | (rw [hF] <;> rfl) | rfl | (rw [hF]; simp only [Ending.returned.injEq, Value.slice.injEq, true_and, and_true]; first | omega | (simp; done)) | (rw [hF]; simp; omega), by rw [hF]; exact (HH217.o (i := 0) rfl), HH217.below⟩
        · refine wp_skip ?_
          refine nrm ?_
          refine wp_seq ?_
          refine rg ?_
          refine pl_x HE209 HH201 (wt0 rfl) (x_loadN (cs := [.int .i64 ((syI (splitR 59 a0) k)), .int .i64 ((List.length (splitR 59 a0) : Int)), .slice A_5_2 ((List.length (rlF (splitR 59 a0) k))) c_5_2]) tv_24 rfl rfl (c_blkN 1 rfl)) rfl rfl fun a_218 HE219 => ?_
          refine pl fun K_220 hK221 => ?_
          refine st_store (vs := [.int .i64 ((syI (splitR 59 a0) k)), .int .i64 ((List.length (splitR 59 a0) : Int)), .slice A_5_2 ((List.length (rlF (splitR 59 a0) k))) c_5_2]) 3 HE219 HH201 tv_24 rfl rfl rfl rfl rfl rfl (by simp [Value.oneCell']) (wt0 rfl) fun w' HH222 => hK221 _ _ ?_
          refine pl_x HE219 HH222 (wt0 rfl) (x_assign rfl) rfl rfl fun a_223 HE224 => ?_
          refine wpList_nil ?_
          clear a_208 HE209 HH201 a_218 HE219 hK221 K_220
          refine nrm ?_
          refine wp_ret ?_
          refine ret2 HE224 rfl (rv_cell rfl (tv_24.loadN (cs := [.int .i64 ((syI (splitR 59 a0) k)), .int .i64 ((List.length (splitR 59 a0) : Int)), .slice A_5_2 ((List.length (rlF (splitR 59 a0) k))) c_5_2]) rfl (c_blkN 3 rfl _ HH222))) (rv_tmp rfl) ?_
          have HH225 := HH222.vecSo
          have HH226 := HH225.pairF (E := eInt) (c1 := [.int .i64 ((List.length (splitR 59 a0) : Int))]) (x := (List.length (splitR 59 a0) : Int)) (oI (by exact ⟨by omega, by omega⟩))
          have HH227 := HH226.pairF (E := eInt) (c1 := [.int .i64 ((syI (splitR 59 a0) k))]) (x := (syI (splitR 59 a0) k)) (oI (by exact ⟨by omega, by omega⟩))
          obtain ⟨S59, HH228⟩ : ∃ S, Held Nob w (rO eMachine S [.int .i64 ((syI (splitR 59 a0) k)), .int .i64 ((List.length (splitR 59 a0) : Int)), .slice A_5_2 ((List.length (rlF (splitR 59 a0) k))) c_5_2] ((syI (splitR 59 a0) k), (List.length (splitR 59 a0) : Int), rlF (splitR 59 a0) k) :: _) _ := ⟨_, HH227⟩
          have hF : (rdMaI a0) = (((syI (splitR 59 a0) k), (List.length (splitR 59 a0) : Int), rlF (splitR 59 a0) k), true) := by
            unfold rdMaI; rw [hM]; first | (rw [if_pos ⟨by assumption, by assumption⟩]; done) | (exact if_neg (fun hh => ff hh.1 (by assumption))) | (exact if_neg (fun hh => absurd hh.2 (by assumption)))
          exact ⟨_, by first | (rw [hF] <;> rfl) | rfl | (rw [hF]; simp only [Ending.returned.injEq, Value.slice.injEq, true_and, and_true]; first | omega | (simp; done)) | (rw [hF]; simp; omega), by rw [hF]; exact (HH228.o (i := 0) rfl), HH228.below⟩
      · refine pl_no HE196 (wtF HE196 rfl rfl rfl (not_t hc56)) rfl rfl fun a_229 HE230 => ?_
        refine pl_no HE230 (wtF HE230 rfl rfl rfl (not_t hc56)) rfl rfl fun a_231 HE232 => ?_
        refine pl_no HE232 (wtF HE232 rfl rfl rfl (not_t hc56)) rfl rfl fun a_233 HE234 => ?_
        refine pl_no HE234 (wtF HE234 rfl rfl rfl (not_t hc56)) rfl rfl fun a_235 HE236 => ?_
        refine pl_x HE236 HH190 (wt0 rfl) (x_pickT rfl (not_t hc56) rfl) rfl rfl fun a_237 HE238 => ?_
        refine wpList_nil ?_
        clear a_47 HE48 HH46 a_186 HE187 a_191 HE192 a_193 HE194 a_195 HE196 a_229 HE230 a_231 HE232 a_233 HE234 a_235 HE236 hK189 K_188
        refine nrm ?_
        refine cndT HE238 rfl rfl ?_
        refine wp_seq ?_
        refine rg ?_
        refine pl_x HE238 HH190 (wt0 rfl) (show XS _ _ _ _ (.agg #[.int .i64 (0), .int .i64 (0), .slice none (0) 0]) from x_build (vs := []) tb_24 rfl (by simp [Value.oneCell'])) rfl rfl fun a_239 HE240 => ?_
        refine pl fun K_241 hK242 => ?_
        refine st_store (vs := [.int .i64 (0), .int .i64 (0), .slice none (0) 0]) 3 HE240 HH190 tv_24 rfl rfl rfl rfl rfl rfl (by simp [Value.oneCell']) (wt0 rfl) fun w' HH243 => hK242 _ _ ?_
        refine pl_x HE240 HH243 (wt0 rfl) (x_assign rfl) rfl rfl fun a_244 HE245 => ?_
        refine wpList_nil ?_
        clear a_237 HE238 HH190 a_239 HE240 hK242 K_241
        refine nrm ?_
        refine wp_ret ?_
        refine (thn_ret ?_)
        refine ret2 HE245 rfl (rv_cell rfl (tv_24.loadN (cs := [.int .i64 (0), .int .i64 (0), .slice none (0) 0]) rfl (c_blkN 3 rfl _ HH243))) (rv_tmp rfl) ?_
        have HH246 := HH243.flatO (E := eMachine) (cs := [.int .i64 (0), .int .i64 (0), .slice none (0) 0]) (x := (0, 0, [])) (fun _ => (oPrN (oI (by exact ⟨by omega, by omega⟩)) (oPrN (oI (by exact ⟨by omega, by omega⟩)) (oSl (So.nil (Nat.zero_le _))))))
        have hF : (rdMaI a0) = ((0, 0, []), false) := by
          unfold rdMaI; rw [hM]; first | (rw [if_pos ⟨by assumption, by assumption⟩]; done) | (exact if_neg (fun hh => ff hh.1 (by assumption))) | (exact if_neg (fun hh => absurd hh.2 (by assumption)))
        exact ⟨_, by first | (rw [hF] <;> rfl) | rfl | (rw [hF]; simp only [Ending.returned.injEq, Value.slice.injEq, true_and, and_true]; first | omega | (simp; done)) | (rw [hF]; simp; omega), by rw [hF]; exact (HH246.o (i := 0) rfl), HH246.below⟩

open Go.Lib in
set_option maxRecDepth 100000 in
set_option maxHeartbeats 4000000 in
theorem spec_l05Read (a0 : List UInt8) (w : World) (s0 : a0.length ≤ 2000000) :
    Calls Tryz.prog 9 #[.string (bs a0)] w fun e w' => ∃ (es0' : List Value), e = .returned (.tuple #[.agg es0'.toArray, .bool (rdMaS a0).2]) ∧ eMachine.O w' (Fr w w') es0' (rdMaS a0).1 ∧ Below w.heap.size w w' := by
  have hA0 := splitR_len 59 a0
  have HH1 := Held.start Nob w
  refine enter (n := 74) Tryz.func9 rfl rfl rfl fun a_2 HE3 => ?_
  refine wp_seq ?_
  refine rg ?_
  refine pl fun K_4 hK5 => ?_
  refine st_alloc HE3 HH1 tv_24 (wt0 rfl) rfl fun q21 a_6 w' HE7 HH8 => hK5 _ _ ?_
  refine pl_x HE7 HH8 (wt0 rfl) (x_assign rfl) rfl rfl fun a_9 HE10 => ?_
  refine wpList_nil ?_
  clear a_2 HE3 HH1 a_6 HE7 hK5 K_4
  refine nrm ?_
  refine wp_seq ?_
  refine rg ?_
  refine pl_x HE10 HH8 (wt0 rfl) (x_move rfl) rfl rfl fun a_11 HE12 => ?_
  refine pl fun K_13 hK14 => ?_
  refine st_call HE12 (wt0 rfl) rfl rfl rfl en_18 rfl rfl (spec_l01Split a0 _ 59 _ (by omega) (by rfl)) fun e w' hr => ?_
  have hAr22_0 := splitR_len 59 a0
  have hAr22_1 := splitR_piece 59 a0
  obtain ⟨Ar22_0, cr22_0, rfl, hor22_0, hbr22⟩ := hr
  obtain ⟨Sr22, HH15⟩ := HH8.newS hbr22 hor22_0
  refine ⟨_, rfl, fun a_16 HE17 => hK14 _ _ ?_⟩
  refine pl_x HE17 HH15 (wt0 rfl) (x_assign rfl) rfl rfl fun a_18 HE19 => ?_
  refine wpList_nil ?_
  clear a_9 HE10 HH8 a_11 HE12 a_16 HE17 hK14 K_13
  refine nrm ?_
  refine wp_seq ?_
  refine wp_seq ?_
  refine rg ?_
  refine pl_x HE19 HH15 (wt0 rfl) (x_move rfl) rfl rfl fun a_20 HE21 => ?_
  refine pl_x HE21 HH15 (wt0 rfl) (x_len Tryz.underlying30 rfl) rfl rfl fun a_22 HE23 => ?_
  refine pl_x HE23 HH15 (wt0 rfl) (x_gtr rfl rfl) rfl rfl fun a_24 HE25 => ?_
  refine wpList_nil ?_
  clear a_18 HE19 a_20 HE21 a_22 HE23
  refine nrm ?_
  refine cnd_d HE25 rfl (fun hc23 => ?_) (fun hc23 => ?_)
  · refine wp_seq ?_
    refine rg ?_
    refine pl_x HE25 HH15 (wt0 rfl) (show XS _ _ _ _ (.agg #[.int .i64 (0), .int .i64 (0), .slice none (0) 0]) from x_build (vs := []) tb_24 rfl (by simp [Value.oneCell'])) rfl rfl fun a_26 HE27 => ?_
    refine pl fun K_28 hK29 => ?_
    refine st_store (vs := [.int .i64 (0), .int .i64 (0), .slice none (0) 0]) 1 HE27 HH15 tv_24 rfl rfl rfl rfl rfl rfl (by simp [Value.oneCell']) (wt0 rfl) fun w' HH30 => hK29 _ _ ?_
    refine pl_x HE27 HH30 (wt0 rfl) (x_assign rfl) rfl rfl fun a_31 HE32 => ?_
    refine wpList_nil ?_
    clear a_24 HE25 HH15 a_26 HE27 hK29 K_28
    refine nrm ?_
    refine wp_ret ?_
    refine (thn_ret ?_)
    refine ret2 HE32 rfl (rv_cell rfl (tv_24.loadN (cs := [.int .i64 (0), .int .i64 (0), .slice none (0) 0]) rfl (c_blkN 1 rfl _ HH30))) (rv_tmp rfl) ?_
    have HH33 := HH30.flatO (E := eMachine) (cs := [.int .i64 (0), .int .i64 (0), .slice none (0) 0]) (x := (0, 0, [])) (fun _ => (oPrN (oI (by exact ⟨by omega, by omega⟩)) (oPrN (oI (by exact ⟨by omega, by omega⟩)) (oSl (So.nil (Nat.zero_le _))))))
    have hF : (rdMaS a0) = ((0, 0, []), false) := by
      first | exact rdMaS_long (by omega) | exact rdMaS_row (by omega) hs0 (by omega) hsk (rwK_len (by omega)) | exact rdMaS_row (by omega) hs0 (by omega) hsk (rwK_six (by omega)) | exact rdMaS_row (by omega) hs0 (by omega) hsk (rwK_rule hwj (by assumption)) | exact rdMaS_inv hM (by assumption) | exact rdMaS_yes hM (by assumption) (by omega) (by omega) hs0 (by omega) p0_1
    exact ⟨_, by first | (rw [hF] <;> rfl) | rfl | (rw [hF]; simp only [Ending.returned.injEq, Value.slice.injEq, true_and, and_true]; first | omega | (simp; done)) | (rw [hF]; simp; omega), by rw [hF]; exact (HH33.o (i := 0) rfl), HH33.below⟩
  · refine wp_skip ?_
    refine nrm ?_
    refine wp_seq ?_
    refine rg ?_
    refine pl_x HE25 HH15 (wt0 rfl) (x_move rfl) rfl rfl fun a_34 HE35 => ?_
    refine pl_x HE35 HH15 (wt0 rfl) (x_len Tryz.underlying30 rfl) rfl rfl fun a_36 HE37 => ?_
    refine pl_x HE37 HH15 (wt0 rfl) (x_move rfl) rfl rfl fun a_38 HE39 => ?_
    have ke24 : 0 < (splitR 59 a0).length := by omega
    obtain ⟨be24, fe24, rfl⟩ := el_own HH15 (i := 0) rfl ke24
    refine pl_x HE39 HH15 (wt0 rfl) (x_indexAddr ts_30 rfl rfl rfl rfl ke24) rfl rfl fun a_40 HE41 => ?_
    obtain ⟨y25, xy25⟩ : ∃ y_, y_ = (splitR 59 a0)[0]'(by first | exact ke24 | (simp only [List.length_set]; exact ke24) | omega | (simp only [List.length_set]; omega) | (simp; omega)) := ⟨_, rfl⟩
    have jy25 : List.length y25 ≤ 9223372036854775807 := by rw [xy25]; exact i_ownS HH15 0 rfl _
    have hs0 := xy25
    have hpy25 := splitR_piece 59 a0 y25 (by rw [xy25]; exact List.getElem_mem _)
    have hqy25 := splitR_len 44 y25
    refine pl_x HE41 HH15 (wt0 rfl) (x_load1 tv_9 rfl (c_ownS 0 rfl (by first | exact ke24 | (simp only [List.length_set]; exact ke24) | omega | (simp only [List.length_set]; omega) | (simp; omega)) xy25.symm)) rfl rfl fun a_42 HE43 => ?_
    refine pl fun K_44 hK45 => ?_
    refine st_call HE43 (wt0 rfl) rfl rfl rfl en_18 rfl rfl (spec_l01Split y25 _ 44 _ (by omega) (by rfl)) fun e w' hr => ?_
    have hAr26_0 := splitR_len 44 y25
    have hAr26_1 := splitR_piece 44 y25
    obtain ⟨Ar26_0, cr26_0, rfl, hor26_0, hbr26⟩ := hr
    obtain ⟨Sr26, HH46⟩ := HH15.newS hbr26 hor26_0
    refine ⟨_, rfl, fun a_47 HE48 => hK45 _ _ ?_⟩
    refine pl_x HE48 HH46 (wt0 rfl) (x_len Tryz.underlying30 rfl) rfl rfl fun a_49 HE50 => ?_
    refine pl_x HE50 HH46 (wt0 rfl) (show XS _ _ _ _ (.agg #[.int .i64 (((splitR 44 y25).length : Int)), .int .i64 (((splitR 59 a0).length : Int)), .slice none (0) 0]) from x_build (vs := [(1, .int .i64 (((splitR 59 a0).length : Int))), (0, .int .i64 (((splitR 44 y25).length : Int)))]) tb_24 rfl (by simp [Value.oneCell'])) rfl rfl fun a_51 HE52 => ?_
    refine pl fun K_53 hK54 => ?_
    refine st_alloc HE52 HH46 tv_24 (wt0 rfl) rfl fun q27 a_55 w' HE56 HH57 => hK54 _ _ ?_
    refine pl fun K_58 hK59 => ?_
    refine st_store (vs := [.int .i64 (((splitR 44 y25).length : Int)), .int .i64 (((splitR 59 a0).length : Int)), .slice none (0) 0]) 0 HE56 HH57 tv_24 rfl rfl rfl rfl rfl rfl (by simp [Value.oneCell']) (wt0 rfl) fun w' HH60 => hK59 _ _ ?_
    refine wpList_nil ?_
    clear a_24 HE25 a_34 HE35 a_36 HE37 a_38 HE39 a_40 HE41 HH15 a_42 HE43 a_47 HE48 a_49 HE50 K_44 hK45 a_51 HE52 HH46 K_53 hK54 HH57 hK59 K_58
    refine nrm ?_
    refine wp_seq ?_
    refine wp_seq ?_
    refine rg ?_
    refine pl_x HE56 HH60 (wt0 rfl) (x_assign rfl) rfl rfl fun a_61 HE62 => ?_
    refine wpList_nil ?_
    clear a_55 HE56
    refine nrm ?_
    refine wp_block ?_
    have HH63 := HH60.vecNil eRule 34
    refine lp (fun m a w' => ∃ (k : Nat) (A_5_2 : Option Addr) (c_5_2 : Nat) (S_5_2 : Nat → Prop), m = List.length (splitR 59 a0) - k ∧ Env 74 [(6, .int .i64 (k : Int)), (2, .pointer (some ⟨q21, 0, none⟩)), (4, .slice (some ⟨be24, fe24, none⟩) ((splitR 59 a0).length) cr22_0), (5, .pointer (some ⟨q27, 0, none⟩))] a ∧ Held Nob w [rVec eRule 34 S_5_2 A_5_2 c_5_2 (rwF (splitR 59 a0) k), rBlk q27 24 [.int .i64 ((splitR 44 y25).length : Int), .int .i64 (List.length (splitR 59 a0) : Int), .slice A_5_2 (List.length (rwF (splitR 59 a0) k)) c_5_2], rSo eTxt Sr26 Ar26_0 cr26_0 (splitR 44 y25), rSo eTxt Sr22 (some ⟨be24, fe24, none⟩) cr22_0 (splitR 59 a0), rBlk q21 24 [.int .i64 (0), .int .i64 (0), .slice none (0) 0]] w' ∧ (k ≤ List.length (splitR 59 a0)) ∧ (((splitR 59 a0).take k).all (rwK (splitR 44 y25).length) = true)) (List.length (splitR 59 a0) - (0)) ?_ ?_
    · have E28 : rwF (splitR 59 a0) 0 = [] := by
        rfl
      have E29 : (List.length (splitR 59 a0) : Int) = ((splitR 59 a0).length : Int) := by first | rfl | omega | (simp [hc23, xy25]; done)
      exact ⟨0, none, 0, Nob, rfl, HE62.sub ⟨(lkI rfl (by first | rfl | omega | (simp [hc23, xy25]; done))), rfl, rfl, rfl, trivial⟩, ((HH63.sel [0, 1, 2, 3, 4] (by decide) rfl).to (by first | rfl | (rw [E28, E29]; done) | (rw [E28, E29]; rfl) | (simp only [E28, E29]; done) | (simp only [E28, E29]; rfl) | (rw [E28, E29]; simp only [List.length_set]; done))), (by first | omega | assumption | (simp; done) | simp_all), (by rfl)⟩
    · rintro m a_64 w' ⟨k, A_5_2, c_5_2, S_5_2, rfl, HE65, HH66, p30_0, p30_1⟩
      refine wp_seq ?_
      refine wp_seq ?_
      refine rg ?_
      refine pl_x HE65 HH66 (wt0 rfl) (x_move rfl) rfl rfl fun a_67 HE68 => ?_
      refine pl_x HE68 HH66 (wt0 rfl) (x_move rfl) rfl rfl fun a_69 HE70 => ?_
      refine pl_x HE70 HH66 (wt0 rfl) (x_len Tryz.underlying30 rfl) rfl rfl fun a_71 HE72 => ?_
      refine pl_x HE72 HH66 (wt0 rfl) (x_lss rfl rfl) rfl rfl fun a_73 HE74 => ?_
      refine wpList_nil ?_
      clear HH60 a_61 HE62 HH63 a_64 HE65 a_67 HE68 a_69 HE70 a_71 HE72
      refine nrm ?_
      refine cnd_d HE74 rfl (fun hc31 => ?_) (fun hc31 => ?_)
      · refine wp_skip ?_
        refine nrm ?_
        refine wp_seq ?_
        refine wp_block ?_
        refine wp_seq ?_
        refine rg ?_
        refine pl_x HE74 HH66 (wt0 rfl) (x_move rfl) rfl rfl fun a_75 HE76 => ?_
        refine pl_x HE76 HH66 (wt0 rfl) (x_move rfl) rfl rfl fun a_77 HE78 => ?_
        have ke32 : k < (splitR 59 a0).length := by omega
        refine pl_x HE78 HH66 (wt0 rfl) (x_indexAddr ts_30 rfl rfl rfl rfl ke32) rfl rfl fun a_79 HE80 => ?_
        obtain ⟨y33, xy33⟩ : ∃ y_, y_ = (splitR 59 a0)[k]'(by first | exact ke32 | (simp only [List.length_set]; exact ke32) | omega | (simp only [List.length_set]; omega) | (simp; omega)) := ⟨_, rfl⟩
        have jy33 : List.length y33 ≤ 9223372036854775807 := by rw [xy33]; exact i_ownS HH66 3 rfl _
        have hsk := xy33
        have hpy33 := splitR_piece 59 a0 y33 (by rw [xy33]; exact List.getElem_mem _)
        have hqy33 := splitR_len 44 y33
        refine pl_x HE80 HH66 (wt0 rfl) (x_load1 tv_9 rfl (c_ownS 3 rfl (by first | exact ke32 | (simp only [List.length_set]; exact ke32) | omega | (simp only [List.length_set]; omega) | (simp; omega)) xy33.symm)) rfl rfl fun a_81 HE82 => ?_
        refine pl fun K_83 hK84 => ?_
        refine st_call HE82 (wt0 rfl) rfl rfl rfl en_18 rfl rfl (spec_l01Split y33 _ 44 _ (by omega) (by rfl)) fun e w' hr => ?_
        have hAr34_0 := splitR_len 44 y33
        have hAr34_1 := splitR_piece 44 y33
        obtain ⟨Ar34_0, cr34_0, rfl, hor34_0, hbr34⟩ := hr
        obtain ⟨Sr34, HH85⟩ := HH66.newS hbr34 hor34_0
        refine ⟨_, rfl, fun a_86 HE87 => hK84 _ _ ?_⟩
        refine pl_x HE87 HH85 (wt0 rfl) (x_assign rfl) rfl rfl fun a_88 HE89 => ?_
        refine wpList_nil ?_
        clear a_73 HE74 a_75 HE76 a_77 HE78 a_79 HE80 HH66 a_81 HE82 a_86 HE87 hK84 K_83
        refine nrm ?_
        refine wp_seq ?_
        refine wp_seq ?_
        refine rg ?_
        refine pl_x HE89 HH85 (wt0 rfl) (x_move rfl) rfl rfl fun a_90 HE91 => ?_
        refine pl_x HE91 HH85 (wt0 rfl) (x_len Tryz.underlying30 rfl) rfl rfl fun a_92 HE93 => ?_
        refine pl_x HE93 HH85 (wt0 rfl) (x_fieldAddr fa_24_0 rfl) rfl rfl fun a_94 HE95 => ?_
        refine pl_x HE95 HH85 (wt0 rfl) (x_load1 tv_2 rfl (c_blk 2 rfl rfl)) rfl rfl fun a_96 HE97 => ?_
        refine pl_x HE97 HH85 (wt0 rfl) (x_neq rfl rfl) rfl rfl fun a_98 HE99 => ?_
        refine pl_x HE99 HH85 (wt0 rfl) (x_move rfl) rfl rfl fun a_100 HE101 => ?_
        by_cases hc35 : ¬ ((splitR 44 y33).length : Int) = ((splitR 44 y25).length : Int)
        · refine pl_no HE101 (wtF HE101 rfl rfl rfl (bne_t hc35)) rfl rfl fun a_102 HE103 => ?_
          refine pl_no HE103 (wtF HE103 rfl rfl rfl (bne_t hc35)) rfl rfl fun a_104 HE105 => ?_
          refine pl_no HE105 (wtF HE105 rfl rfl rfl (bne_t hc35)) rfl rfl fun a_106 HE107 => ?_
          refine pl_x HE107 HH85 (wt0 rfl) (x_pickT rfl (bne_t hc35) rfl) rfl rfl fun a_108 HE109 => ?_
          refine wpList_nil ?_
          clear a_88 HE89 a_90 HE91 a_92 HE93 a_94 HE95 a_96 HE97 a_98 HE99 a_100 HE101 a_102 HE103 a_104 HE105 a_106 HE107
          refine nrm ?_
          refine cndT HE109 rfl rfl ?_
          refine wp_seq ?_
          refine rg ?_
          refine pl_x HE109 HH85 (wt0 rfl) (show XS _ _ _ _ (.agg #[.int .i64 (0), .int .i64 (0), .slice none (0) 0]) from x_build (vs := []) tb_24 rfl (by simp [Value.oneCell'])) rfl rfl fun a_110 HE111 => ?_
          refine pl fun K_112 hK113 => ?_
          refine st_store (vs := [.int .i64 (0), .int .i64 (0), .slice none (0) 0]) 5 HE111 HH85 tv_24 rfl rfl rfl rfl rfl rfl (by simp [Value.oneCell']) (wt0 rfl) fun w' HH114 => hK113 _ _ ?_
          refine pl_x HE111 HH114 (wt0 rfl) (x_assign rfl) rfl rfl fun a_115 HE116 => ?_
          refine wpList_nil ?_
          clear a_108 HE109 HH85 a_110 HE111 hK113 K_112
          refine nrm ?_
          refine wp_ret ?_
          refine (thn_ret (blk_ret (thn_ret (thn_ret (blk_ret (thn_ret ?_))))))
          refine ret2 HE116 rfl (rv_cell rfl (tv_24.loadN (cs := [.int .i64 (0), .int .i64 (0), .slice none (0) 0]) rfl (c_blkN 5 rfl _ HH114))) (rv_tmp rfl) ?_
          have HH117 := HH114.flatO (E := eMachine) (cs := [.int .i64 (0), .int .i64 (0), .slice none (0) 0]) (x := (0, 0, [])) (fun _ => (oPrN (oI (by exact ⟨by omega, by omega⟩)) (oPrN (oI (by exact ⟨by omega, by omega⟩)) (oSl (So.nil (Nat.zero_le _))))))
          have hF : (rdMaS a0) = ((0, 0, []), false) := by
            first | exact rdMaS_long (by omega) | exact rdMaS_row (by omega) hs0 (by omega) hsk (rwK_len (by omega)) | exact rdMaS_row (by omega) hs0 (by omega) hsk (rwK_six (by omega)) | exact rdMaS_row (by omega) hs0 (by omega) hsk (rwK_rule hwj (by assumption)) | exact rdMaS_inv hM (by assumption) | exact rdMaS_yes hM (by assumption) (by omega) (by omega) hs0 (by omega) p30_1
          exact ⟨_, by first | (rw [hF] <;> rfl) | rfl | (rw [hF]; simp only [Ending.returned.injEq, Value.slice.injEq, true_and, and_true]; first | omega | (simp; done)) | (rw [hF]; simp; omega), by rw [hF]; exact (HH117.o (i := 0) rfl), HH117.below⟩
        · replace hc35 := Classical.not_not.1 hc35
          refine pl_x HE101 HH85 (wtT HE101 rfl rfl rfl (bne_f hc35)) (x_fieldAddr fa_24_0 rfl) rfl rfl fun a_118 HE119 => ?_
          refine pl_x HE119 HH85 (wtT HE119 rfl rfl rfl (bne_f hc35)) (x_load1 tv_2 rfl (c_blk 2 rfl rfl)) rfl rfl fun a_120 HE121 => ?_
          refine pl_x HE121 HH85 (wtT HE121 rfl rfl rfl (bne_f hc35)) (x_gtr rfl rfl) rfl rfl fun a_122 HE123 => ?_
          refine pl_x HE123 HH85 (wt0 rfl) (x_pickF rfl (bne_f hc35) rfl) rfl rfl fun a_124 HE125 => ?_
          refine wpList_nil ?_
          clear a_88 HE89 a_90 HE91 a_92 HE93 a_94 HE95 a_96 HE97 a_98 HE99 a_100 HE101 a_118 HE119 a_120 HE121 a_122 HE123
          refine nrm ?_
          refine cnd_d HE125 rfl (fun hc36 => ?_) (fun hc36 => ?_)
          · refine wp_seq ?_
            refine rg ?_
            refine pl_x HE125 HH85 (wt0 rfl) (show XS _ _ _ _ (.agg #[.int .i64 (0), .int .i64 (0), .slice none (0) 0]) from x_build (vs := []) tb_24 rfl (by simp [Value.oneCell'])) rfl rfl fun a_126 HE127 => ?_
            refine pl fun K_128 hK129 => ?_
            refine st_store (vs := [.int .i64 (0), .int .i64 (0), .slice none (0) 0]) 5 HE127 HH85 tv_24 rfl rfl rfl rfl rfl rfl (by simp [Value.oneCell']) (wt0 rfl) fun w' HH130 => hK129 _ _ ?_
            refine pl_x HE127 HH130 (wt0 rfl) (x_assign rfl) rfl rfl fun a_131 HE132 => ?_
            refine wpList_nil ?_
            clear a_124 HE125 HH85 a_126 HE127 hK129 K_128
            refine nrm ?_
            refine wp_ret ?_
            refine (thn_ret (blk_ret (thn_ret (thn_ret (blk_ret (thn_ret ?_))))))
            refine ret2 HE132 rfl (rv_cell rfl (tv_24.loadN (cs := [.int .i64 (0), .int .i64 (0), .slice none (0) 0]) rfl (c_blkN 5 rfl _ HH130))) (rv_tmp rfl) ?_
            have HH133 := HH130.flatO (E := eMachine) (cs := [.int .i64 (0), .int .i64 (0), .slice none (0) 0]) (x := (0, 0, [])) (fun _ => (oPrN (oI (by exact ⟨by omega, by omega⟩)) (oPrN (oI (by exact ⟨by omega, by omega⟩)) (oSl (So.nil (Nat.zero_le _))))))
            have hF : (rdMaS a0) = ((0, 0, []), false) := by
              first | exact rdMaS_long (by omega) | exact rdMaS_row (by omega) hs0 (by omega) hsk (rwK_len (by omega)) | exact rdMaS_row (by omega) hs0 (by omega) hsk (rwK_six (by omega)) | exact rdMaS_row (by omega) hs0 (by omega) hsk (rwK_rule hwj (by assumption)) | exact rdMaS_inv hM (by assumption) | exact rdMaS_yes hM (by assumption) (by omega) (by omega) hs0 (by omega) p30_1
            exact ⟨_, by first | (rw [hF] <;> rfl) | rfl | (rw [hF]; simp only [Ending.returned.injEq, Value.slice.injEq, true_and, and_true]; first | omega | (simp; done)) | (rw [hF]; simp; omega), by rw [hF]; exact (HH133.o (i := 0) rfl), HH133.below⟩
          · refine wp_skip ?_
            refine nrm ?_
            refine wp_seq ?_
            refine rg ?_
            refine pl_x HE125 HH85 (wt0 rfl) (x_assign rfl) rfl rfl fun a_134 HE135 => ?_
            refine wpList_nil ?_
            clear a_124 HE125
            refine nrm ?_
            refine wp_block ?_
            refine lp (fun m a w' => ∃ (j : Nat) (A_5_2 : Option Addr) (c_5_2 : Nat) (S_5_2 : Nat → Prop), m = List.length (splitR 44 y33) - j ∧ Env 74 [(8, .int .i64 (j : Int)), (2, .pointer (some ⟨q21, 0, none⟩)), (4, .slice (some ⟨be24, fe24, none⟩) ((splitR 59 a0).length) cr22_0), (5, .pointer (some ⟨q27, 0, none⟩)), (6, .int .i64 ((k : Int))), (7, .slice Ar34_0 ((splitR 44 y33).length) cr34_0)] a ∧ Held Nob w [rVec eRule 34 S_5_2 A_5_2 c_5_2 (rwF (splitR 59 a0) k ++ (List.take j (splitR 44 y33)).map rlV), rBlk q27 24 [.int .i64 ((splitR 44 y25).length : Int), .int .i64 (List.length (splitR 59 a0) : Int), .slice A_5_2 (List.length (rwF (splitR 59 a0) k ++ (List.take j (splitR 44 y33)).map rlV)) c_5_2], rSo eTxt Sr34 Ar34_0 cr34_0 (splitR 44 y33), rSo eTxt Sr26 Ar26_0 cr26_0 (splitR 44 y25), rSo eTxt Sr22 (some ⟨be24, fe24, none⟩) cr22_0 (splitR 59 a0), rBlk q21 24 [.int .i64 (0), .int .i64 (0), .slice none (0) 0]] w' ∧ (j ≤ List.length (splitR 44 y33)) ∧ ((List.take j (splitR 44 y33)).all rlK = true)) (List.length (splitR 44 y33) - (0)) ?_ ?_
            · have E37 : rwF (splitR 59 a0) k ++ (List.take 0 (splitR 44 y33)).map rlV = rwF (splitR 59 a0) k := by
                simp
              exact ⟨0, A_5_2, c_5_2, S_5_2, rfl, HE135.sub ⟨(lkI rfl (by first | rfl | omega | (simp [hc23, xy25, p30_0, p30_1, hc31, xy33, hc35, hc36]; done))), rfl, rfl, rfl, rfl, rfl, trivial⟩, ((HH85.sel [1, 2, 0, 3, 4, 5] (by decide) rfl).to (by first | rfl | (rw [E37]; done) | (rw [E37]; rfl) | (simp only [E37]; done) | (simp only [E37]; rfl) | (rw [E37]; simp only [List.length_set]; done))), (by first | omega | assumption | (simp; done) | simp_all), (by rfl)⟩
            · rintro m a_136 w' ⟨j, A_5_2, c_5_2, S_5_2, rfl, HE137, HH138, p38_0, p38_1⟩
              have hb0 := rwF_len s0 k
              have hb1 : (rwF (splitR 59 a0) k ++ (List.take j (splitR 44 y33)).map rlV).length ≤ 4000006000002 := by rw [List.length_append, List.length_map, List.length_take]; omega
              refine wp_seq ?_
              refine wp_seq ?_
              refine rg ?_
              refine pl_x HE137 HH138 (wt0 rfl) (x_move rfl) rfl rfl fun a_139 HE140 => ?_
              refine pl_x HE140 HH138 (wt0 rfl) (x_move rfl) rfl rfl fun a_141 HE142 => ?_
              refine pl_x HE142 HH138 (wt0 rfl) (x_len Tryz.underlying30 rfl) rfl rfl fun a_143 HE144 => ?_
              refine pl_x HE144 HH138 (wt0 rfl) (x_lss rfl rfl) rfl rfl fun a_145 HE146 => ?_
              refine wpList_nil ?_
              clear a_134 HE135 HH85 a_136 HE137 a_139 HE140 a_141 HE142 a_143 HE144
              refine nrm ?_
              refine cnd_d HE146 rfl (fun hc39 => ?_) (fun hc39 => ?_)
              · refine wp_skip ?_
                refine nrm ?_
                refine wp_seq ?_
                refine wp_block ?_
                refine wp_seq ?_
                refine rg ?_
                refine pl_x HE146 HH138 (wt0 rfl) (x_move rfl) rfl rfl fun a_147 HE148 => ?_
                refine pl_x HE148 HH138 (wt0 rfl) (x_move rfl) rfl rfl fun a_149 HE150 => ?_
                have ke40 : j < (splitR 44 y33).length := by omega
                obtain ⟨be40, fe40, rfl⟩ := el_own HH138 (i := 2) rfl ke40
                refine pl_x HE150 HH138 (wt0 rfl) (x_indexAddr ts_30 rfl rfl rfl rfl ke40) rfl rfl fun a_151 HE152 => ?_
                obtain ⟨y41, xy41⟩ : ∃ y_, y_ = (splitR 44 y33)[j]'(by first | exact ke40 | (simp only [List.length_set]; exact ke40) | omega | (simp only [List.length_set]; omega) | (simp; omega)) := ⟨_, rfl⟩
                have jy41 : List.length y41 ≤ 9223372036854775807 := by rw [xy41]; exact i_ownS HH138 2 rfl _
                have hwj := xy41
                have hpy41 := splitR_piece 44 _ y41 (by rw [xy41]; exact List.getElem_mem _)
                refine pl_x HE152 HH138 (wt0 rfl) (x_load1 tv_9 rfl (c_ownS 2 rfl (by first | exact ke40 | (simp only [List.length_set]; exact ke40) | omega | (simp only [List.length_set]; omega) | (simp; omega)) xy41.symm)) rfl rfl fun a_153 HE154 => ?_
                refine pl fun K_155 hK156 => ?_
                refine st_call HE154 (wt0 rfl) rfl rfl rfl en_19 rfl rfl (spec_l05ReadRule y41 _ (by omega)) fun e w' hr => ?_
                obtain ⟨esr42_0, rfl, hor42_0, hbr42⟩ := hr
                have hr := eRule.read hor42_0
                obtain ⟨Sr42, HH157⟩ := HH138.newO hbr42 hor42_0
                obtain ⟨rfl, gr42_0_0, gr42_0_1, gr42_0_2⟩ := shape_Rule hr
                have jr42_0_0 := gr42_0_0; unfold I64 at jr42_0_0
                have jr42_0_1 := gr42_0_1; unfold I64 at jr42_0_1
                have jr42_0_2 := gr42_0_2; unfold I64 at jr42_0_2
                have HH158 := HH157.sel [1, 2, 3, 4, 5, 6] (by decide) rfl
                refine ⟨_, rfl, fun a_159 HE160 => hK156 _ _ ?_⟩
                refine pl_x HE160 HH158 (wt0 rfl) (x_move rfl) rfl rfl fun a_161 HE162 => ?_
                refine pl_x HE162 HH158 (wt0 rfl) (x_extract rfl rfl) rfl rfl fun a_163 HE164 => ?_
                refine pl_x HE164 HH158 (wt0 rfl) (x_extract rfl rfl) rfl rfl fun a_165 HE166 => ?_
                refine pl fun K_167 hK168 => ?_
                refine st_alloc HE166 HH158 tv_34 (wt0 rfl) rfl fun q43 a_169 w' HE170 HH171 => hK168 _ _ ?_
                refine pl fun K_172 hK173 => ?_
                refine st_store (vs := [.int .i64 ((rlS y41).1.1), .int .i64 ((rlS y41).1.2.1), .int .i64 ((rlS y41).1.2.2)]) 0 HE170 HH171 tv_34 rfl rfl rfl rfl rfl rfl (by simp [Value.oneCell']) (wt0 rfl) fun w' HH174 => hK173 _ _ ?_
                refine pl_x HE170 HH174 (wt0 rfl) (x_assign rfl) rfl rfl fun a_175 HE176 => ?_
                refine wpList_nil ?_
                clear a_145 HE146 a_147 HE148 a_149 HE150 a_151 HE152 HH138 HH157 a_153 HE154 a_159 HE160 a_161 HE162 a_163 HE164 K_155 hK156 a_165 HE166 HH158 K_167 hK168 HH171 a_169 HE170 hK173 K_172
                refine nrm ?_
                refine wp_seq ?_
                refine wp_seq ?_
                refine rg ?_
                refine pl_x HE176 HH174 (wt0 rfl) (x_move rfl) rfl rfl fun a_177 HE178 => ?_
                refine pl_x HE178 HH174 (wt0 rfl) (x_not rfl) rfl rfl fun a_179 HE180 => ?_
                refine wpList_nil ?_
                clear a_175 HE176 a_177 HE178
                refine nrm ?_
                refine cnd_nb HE180 rfl (fun hc44 => ?_) (fun hc44 => ?_)
                · refine wp_seq ?_
                  refine rg ?_
                  refine pl_x HE180 HH174 (wt0 rfl) (show XS _ _ _ _ (.agg #[.int .i64 (0), .int .i64 (0), .slice none (0) 0]) from x_build (vs := []) tb_24 rfl (by simp [Value.oneCell'])) rfl rfl fun a_181 HE182 => ?_
                  refine pl fun K_183 hK184 => ?_
                  refine st_store (vs := [.int .i64 (0), .int .i64 (0), .slice none (0) 0]) 6 HE182 HH174 tv_24 rfl rfl rfl rfl rfl rfl (by simp [Value.oneCell']) (wt0 rfl) fun w' HH185 => hK184 _ _ ?_
                  refine pl_x HE182 HH185 (wt0 rfl) (x_assign rfl) rfl rfl fun a_186 HE187 => ?_
                  refine wpList_nil ?_
                  clear a_179 HE180 HH174 a_181 HE182 hK184 K_183
                  refine nrm ?_
                  refine wp_ret ?_
                  refine (thn_ret (blk_ret (thn_ret (thn_ret (blk_ret (blk_ret (thn_ret (thn_ret (blk_ret (thn_ret ?_))))))))))
                  refine ret2 HE187 rfl (rv_cell rfl (tv_24.loadN (cs := [.int .i64 (0), .int .i64 (0), .slice none (0) 0]) rfl (c_blkN 6 rfl _ HH185))) (rv_tmp rfl) ?_
                  have HH188 := HH185.flatO (E := eMachine) (cs := [.int .i64 (0), .int .i64 (0), .slice none (0) 0]) (x := (0, 0, [])) (fun _ => (oPrN (oI (by exact ⟨by omega, by omega⟩)) (oPrN (oI (by exact ⟨by omega, by omega⟩)) (oSl (So.nil (Nat.zero_le _))))))
                  have hF : (rdMaS a0) = ((0, 0, []), false) := by
                    first | exact rdMaS_long (by omega) | exact rdMaS_row (by omega) hs0 (by omega) hsk (rwK_len (by omega)) | exact rdMaS_row (by omega) hs0 (by omega) hsk (rwK_six (by omega)) | exact rdMaS_row (by omega) hs0 (by omega) hsk (rwK_rule hwj (by assumption)) | exact rdMaS_inv hM (by assumption) | exact rdMaS_yes hM (by assumption) (by omega) (by omega) hs0 (by omega) p38_1
                  exact ⟨_, by first | (rw [hF] <;> rfl) | rfl | (rw [hF]; simp only [Ending.returned.injEq, Value.slice.injEq, true_and, and_true]; first | omega | (simp; done)) | (rw [hF]; simp; omega), by rw [hF]; exact (HH188.o (i := 0) rfl), HH188.below⟩
                · have hrk := hc44
                  refine wp_skip ?_
                  refine nrm ?_
                  refine rg ?_
                  refine pl_x HE180 HH174 (wt0 rfl) (x_fieldAddr fa_24_2 rfl) rfl rfl fun a_189 HE190 => ?_
                  refine pl_x HE190 HH174 (wt0 rfl) (x_load1 tv_22 rfl (c_blk 2 rfl rfl)) rfl rfl fun a_191 HE192 => ?_
                  refine pl_x HE192 HH174 (wt0 rfl) (x_loadN (cs := [.int .i64 ((rlS y41).1.1), .int .i64 ((rlS y41).1.2.1), .int .i64 ((rlS y41).1.2.2)]) tv_34 rfl rfl (c_blkN 0 rfl)) rfl rfl fun a_193 HE194 => ?_
                  refine pl fun K_195 hK196 => ?_
                  refine st_lit (m := 1) (cs := [.int .i64 ((rlS y41).1.1), .int .i64 ((rlS y41).1.2.1), .int .i64 ((rlS y41).1.2.2)]) (e := 34) HE194 HH174 (run_lit ts_22 HE194 (vs := [.agg #[.int .i64 ((rlS y41).1.1), .int .i64 ((rlS y41).1.2.1), .int .i64 ((rlS y41).1.2.2)]]) rfl rfl (by simp [Value.cells]) rfl (by decide)) (wt0 rfl) rfl rfl fun q45 a_197 w' HE198 HH199 => hK196 _ _ ?_
                  refine pl fun K_200 hK201 => ?_
                  refine st_app1F ((rlS y41).1.1, (rlS y41).1.2.1, (rlS y41).1.2.2) HE198 HH199 ts_22 [2, 0, 1, 3, 4, 5, 6, 7] (by decide) rfl (fun _ => (oPrN (oI (by exact ⟨by omega, by omega⟩)) (oPrN (oI (by exact ⟨by omega, by omega⟩)) (oI (by exact ⟨by omega, by omega⟩))))) rfl rfl (by simp [Value.oneCell']) (by unfold maxLen; first | omega | (simp; done) | (simp; omega)) (by first | omega | (simp; done) | (simp; omega)) (wt0 rfl) rfl fun A46 c47 S48 a_202 w' HE203 HH204 => hK201 _ _ ?_
                  refine pl_x HE203 HH204 (wt0 rfl) (x_fieldAddr fa_24_2 rfl) rfl rfl fun a_205 HE206 => ?_
                  refine pl fun K_207 hK208 => ?_
                  refine st_store (vs := [.slice A46 ((rwF (splitR 59 a0) k ++ (List.take j (splitR 44 y33)).map rlV ++ [((rlS y41).1.1, (rlS y41).1.2.1, (rlS y41).1.2.2)]).length) c47]) 2 HE206 HH204 tv_22 rfl rfl rfl rfl rfl rfl (by simp [Value.oneCell']) (wt0 rfl) fun w' HH209 => hK208 _ _ ?_
                  refine wpList_nil ?_
                  clear a_179 HE180 a_189 HE190 a_191 HE192 a_193 HE194 HH174 K_195 hK196 a_197 HE198 HH199 a_202 HE203 K_200 hK201 HH204 hK208 K_207
                  refine blk_n ?_
                  refine nrm ?_
                  refine rg ?_
                  refine pl_x HE206 HH209 (wt0 rfl) (x_move rfl) rfl rfl fun a_210 HE211 => ?_
                  refine pl_x HE211 HH209 (wt0 rfl) (x_add rfl rfl (by exact ⟨by omega, by omega⟩)) rfl rfl fun a_212 HE213 => ?_
                  refine pl_x HE213 HH209 (wt0 rfl) (x_assign rfl) rfl rfl fun a_214 HE215 => ?_
                  refine wpList_nil ?_
                  clear a_205 HE206 a_210 HE211 a_212 HE213
                  have E49 : rwF (splitR 59 a0) k ++ (List.take (j + 1) (splitR 44 y33)).map rlV = (rwF (splitR 59 a0) k ++ (List.take j (splitR 44 y33)).map rlV ++ [((rlS y41).1.1, (rlS y41).1.2.1, (rlS y41).1.2.2)]) := by
                    rw [List.take_succ_eq_append_getElem (by omega), List.map_append, ← hwj, List.append_assoc]; rfl
                  exact nrm ⟨List.length (splitR 44 y33) - (j + 1), (by omega), j + 1, A46, c47, S48, rfl, HE215.sub ⟨(lkI rfl (by first | rfl | omega | (simp [hc23, xy25, p30_0, p30_1, hc31, xy33, hc35, hc36, p38_0, p38_1, hc39, xy41, hc44]; done))), rfl, rfl, rfl, rfl, rfl, trivial⟩, ((HH209.sel [0, 2, 3, 4, 5, 6] (by decide) rfl).to (by first | rfl | (rw [E49]; done) | (rw [E49]; rfl) | (simp only [E49]; done) | (simp only [E49]; rfl) | (rw [E49]; simp only [List.length_set]; done))), (by first | omega | assumption | (simp; done) | simp_all), (by exact allK_snoc p38_1 hwj hrk)⟩
              · refine wp_exit ?_
                refine (thn_exit (thn_exit (blk_hit ?_)))
                refine blk_n ?_
                refine nrm ?_
                refine rg ?_
                refine pl_x HE146 HH138 (wt0 rfl) (x_move rfl) rfl rfl fun a_216 HE217 => ?_
                refine pl_x HE217 HH138 (wt0 rfl) (x_add rfl rfl (by exact ⟨by omega, by omega⟩)) rfl rfl fun a_218 HE219 => ?_
                refine pl_x HE219 HH138 (wt0 rfl) (x_assign rfl) rfl rfl fun a_220 HE221 => ?_
                refine wpList_nil ?_
                clear a_145 HE146 a_216 HE217 a_218 HE219
                have E50 : rwF (splitR 59 a0) (k + 1) = rwF (splitR 59 a0) k ++ (List.take j (splitR 44 y33)).map rlV := by
                  rw [List.take_of_length_le (by omega)]; exact rwF_snoc hsk
                exact nrm ⟨List.length (splitR 59 a0) - (k + 1), (by omega), k + 1, A_5_2, c_5_2, S_5_2, rfl, HE221.sub ⟨(lkI rfl (by first | rfl | omega | (simp [hc23, xy25, p30_0, p30_1, hc31, xy33, hc35, hc36, p38_0, p38_1, hc39]; done))), rfl, rfl, rfl, trivial⟩, ((HH138.sel [0, 1, 3, 4, 5] (by decide) rfl).to (by first | rfl | (rw [E50]; done) | (rw [E50]; rfl) | (simp only [E50]; done) | (simp only [E50]; rfl) | (rw [E50]; simp only [List.length_set]; done))), (by first | omega | assumption | (simp; done) | simp_all), (by exact allK_snoc p30_1 hsk (rwK_yes (by omega) (by omega) (by omega) p38_1))⟩
      · have hM := maS_full (s := a0) (k := k) (by omega) hs0 (by omega) (by omega)
        refine wp_exit ?_
        refine (thn_exit (thn_exit (blk_hit ?_)))
        refine nrm ?_
        refine wp_seq ?_
        refine wp_seq ?_
        refine rg ?_
        refine pl fun K_222 hK223 => ?_
        refine st_call HE74 (wt0 rfl) rfl rfl rfl en_20 rfl rfl (spec_l05Is _ _ _ (((splitR 44 y25).length : Int), (List.length (splitR 59 a0) : Int), rwF (splitR 59 a0) k) _ (rep_Machine (x := (((splitR 44 y25).length : Int), (List.length (splitR 59 a0) : Int), rwF (splitR 59 a0) k)) (by first | exact ⟨by omega, by omega⟩ | (dsimp only; exact ⟨by omega, by omega⟩)) (by first | exact ⟨by omega, by omega⟩ | (dsimp only; exact ⟨by omega, by omega⟩)) (HH66.vecSl (i := 0) rfl)) (c_blkN 1 rfl _ HH66)) fun e w' hr => ?_
        obtain ⟨rfl, hbr51⟩ := hr
        have HH224 := HH66.on hbr51
        refine ⟨_, rfl, fun a_225 HE226 => hK223 _ _ ?_⟩
        refine pl_x HE226 HH224 (wt0 rfl) (x_not rfl) rfl rfl fun a_227 HE228 => ?_
        refine wpList_nil ?_
        clear HH66 a_73 HE74 a_225 HE226 hK223 K_222
        refine nrm ?_
        refine cnd_nb HE228 rfl (fun hc52 => ?_) (fun hc52 => ?_)
        · refine wp_seq ?_
          refine rg ?_
          refine pl_x HE228 HH224 (wt0 rfl) (show XS _ _ _ _ (.agg #[.int .i64 (0), .int .i64 (0), .slice none (0) 0]) from x_build (vs := []) tb_24 rfl (by simp [Value.oneCell'])) rfl rfl fun a_229 HE230 => ?_
          refine pl fun K_231 hK232 => ?_
          refine st_store (vs := [.int .i64 (0), .int .i64 (0), .slice none (0) 0]) 4 HE230 HH224 tv_24 rfl rfl rfl rfl rfl rfl (by simp [Value.oneCell']) (wt0 rfl) fun w' HH233 => hK232 _ _ ?_
          refine pl_x HE230 HH233 (wt0 rfl) (x_assign rfl) rfl rfl fun a_234 HE235 => ?_
          refine wpList_nil ?_
          clear a_227 HE228 HH224 a_229 HE230 hK232 K_231
          refine nrm ?_
          refine wp_ret ?_
          refine (thn_ret ?_)
          refine ret2 HE235 rfl (rv_cell rfl (tv_24.loadN (cs := [.int .i64 (0), .int .i64 (0), .slice none (0) 0]) rfl (c_blkN 4 rfl _ HH233))) (rv_tmp rfl) ?_
          have HH236 := HH233.flatO (E := eMachine) (cs := [.int .i64 (0), .int .i64 (0), .slice none (0) 0]) (x := (0, 0, [])) (fun _ => (oPrN (oI (by exact ⟨by omega, by omega⟩)) (oPrN (oI (by exact ⟨by omega, by omega⟩)) (oSl (So.nil (Nat.zero_le _))))))
          have hF : (rdMaS a0) = ((0, 0, []), false) := by
            first | exact rdMaS_long (by omega) | exact rdMaS_row (by omega) hs0 (by omega) hsk (rwK_len (by omega)) | exact rdMaS_row (by omega) hs0 (by omega) hsk (rwK_six (by omega)) | exact rdMaS_row (by omega) hs0 (by omega) hsk (rwK_rule hwj (by assumption)) | exact rdMaS_inv hM (by assumption) | exact rdMaS_yes hM (by assumption) (by omega) (by omega) hs0 (by omega) p30_1
          exact ⟨_, by first | (rw [hF] <;> rfl) | rfl | (rw [hF]; simp only [Ending.returned.injEq, Value.slice.injEq, true_and, and_true]; first | omega | (simp; done)) | (rw [hF]; simp; omega), by rw [hF]; exact (HH236.o (i := 0) rfl), HH236.below⟩
        · refine wp_skip ?_
          refine nrm ?_
          refine wp_seq ?_
          refine rg ?_
          refine pl_x HE228 HH224 (wt0 rfl) (x_loadN (cs := [.int .i64 (((splitR 44 y25).length : Int)), .int .i64 ((List.length (splitR 59 a0) : Int)), .slice A_5_2 ((List.length (rwF (splitR 59 a0) k))) c_5_2]) tv_24 rfl rfl (c_blkN 1 rfl)) rfl rfl fun a_237 HE238 => ?_
          refine pl fun K_239 hK240 => ?_
          refine st_store (vs := [.int .i64 (((splitR 44 y25).length : Int)), .int .i64 ((List.length (splitR 59 a0) : Int)), .slice A_5_2 ((List.length (rwF (splitR 59 a0) k))) c_5_2]) 4 HE238 HH224 tv_24 rfl rfl rfl rfl rfl rfl (by simp [Value.oneCell']) (wt0 rfl) fun w' HH241 => hK240 _ _ ?_
          refine pl_x HE238 HH241 (wt0 rfl) (x_assign rfl) rfl rfl fun a_242 HE243 => ?_
          refine wpList_nil ?_
          clear a_227 HE228 HH224 a_237 HE238 hK240 K_239
          refine nrm ?_
          refine wp_ret ?_
          refine ret2 HE243 rfl (rv_cell rfl (tv_24.loadN (cs := [.int .i64 (((splitR 44 y25).length : Int)), .int .i64 ((List.length (splitR 59 a0) : Int)), .slice A_5_2 ((List.length (rwF (splitR 59 a0) k))) c_5_2]) rfl (c_blkN 4 rfl _ HH241))) (rv_tmp rfl) ?_
          have HH244 := HH241.vecSo
          have HH245 := HH244.pairF (E := eInt) (c1 := [.int .i64 ((List.length (splitR 59 a0) : Int))]) (x := (List.length (splitR 59 a0) : Int)) (oI (by exact ⟨by omega, by omega⟩))
          have HH246 := HH245.pairF (E := eInt) (c1 := [.int .i64 (((splitR 44 y25).length : Int))]) (x := ((splitR 44 y25).length : Int)) (oI (by exact ⟨by omega, by omega⟩))
          obtain ⟨S53, HH247⟩ : ∃ S, Held Nob w (rO eMachine S [.int .i64 (((splitR 44 y25).length : Int)), .int .i64 ((List.length (splitR 59 a0) : Int)), .slice A_5_2 ((List.length (rwF (splitR 59 a0) k))) c_5_2] (((splitR 44 y25).length : Int), (List.length (splitR 59 a0) : Int), rwF (splitR 59 a0) k) :: _) _ := ⟨_, HH246⟩
          have hF : (rdMaS a0) = ((((splitR 44 y25).length : Int), (List.length (splitR 59 a0) : Int), rwF (splitR 59 a0) k), true) := by
            first | exact rdMaS_long (by omega) | exact rdMaS_row (by omega) hs0 (by omega) hsk (rwK_len (by omega)) | exact rdMaS_row (by omega) hs0 (by omega) hsk (rwK_six (by omega)) | exact rdMaS_row (by omega) hs0 (by omega) hsk (rwK_rule hwj (by assumption)) | exact rdMaS_inv hM (by assumption) | exact rdMaS_yes hM (by assumption) (by omega) (by omega) hs0 (by omega) p30_1
          exact ⟨_, by first | (rw [hF] <;> rfl) | rfl | (rw [hF]; simp only [Ending.returned.injEq, Value.slice.injEq, true_and, and_true]; first | omega | (simp; done)) | (rw [hF]; simp; omega), by rw [hF]; exact (HH247.o (i := 0) rfl), HH247.below⟩

open Go.Lib in
set_option maxRecDepth 100000 in
set_option maxHeartbeats 4000000 in
theorem spec_ReadMachine (a0 : List UInt8) (w : World) (s0 : a0.length ≤ 2000000) :
    Calls Tryz.prog 4 #[.string (bs a0)] w fun e w' => ∃ (es0' : List Value), e = .returned (.tuple #[.agg es0'.toArray, .bool (rdMaI a0).2]) ∧ eMachine.O w' (Fr w w') es0' (rdMaI a0).1 ∧ Below w.heap.size w w' := by
  have HH1 := Held.start Nob w
  refine enter (n := 8) Tryz.func4 rfl rfl rfl fun a_2 HE3 => ?_
  refine wp_seq ?_
  refine rg ?_
  refine pl fun K_4 hK5 => ?_
  refine st_alloc HE3 HH1 tv_24 (wt0 rfl) rfl fun q21 a_6 w' HE7 HH8 => hK5 _ _ ?_
  refine pl_x HE7 HH8 (wt0 rfl) (x_assign rfl) rfl rfl fun a_9 HE10 => ?_
  refine wpList_nil ?_
  clear a_2 HE3 HH1 a_6 HE7 hK5 K_4
  refine nrm ?_
  refine wp_seq ?_
  refine rg ?_
  refine pl_x HE10 HH8 (wt0 rfl) (x_move rfl) rfl rfl fun a_11 HE12 => ?_
  refine pl fun K_13 hK14 => ?_
  refine st_call HE12 (wt0 rfl) rfl rfl rfl en_9 rfl rfl (spec_l05Read a0 _ (by omega)) fun e w' hr => ?_
  obtain ⟨esr22_0, rfl, hor22_0, hbr22⟩ := hr
  have hr := eMachine.read hor22_0
  obtain ⟨Sr22, HH15⟩ := HH8.newO hbr22 hor22_0
  obtain ⟨Ar22_0_2, cr22_0_2, rfl, gr22_0_0, gr22_0_1, gr22_0_2⟩ := shape_Machine hr
  have jr22_0_0 := gr22_0_0; unfold I64 at jr22_0_0
  have jr22_0_1 := gr22_0_1; unfold I64 at jr22_0_1
  have HH16 := HH15.unF rfl
  have HH17 := HH16.unF rfl
  refine ⟨_, rfl, fun a_18 HE19 => hK14 _ _ ?_⟩
  refine pl_x HE19 HH17 (wt0 rfl) (x_extract rfl rfl) rfl rfl fun a_20 HE21 => ?_
  refine pl_x HE21 HH17 (wt0 rfl) (x_extract rfl rfl) rfl rfl fun a_22 HE23 => ?_
  refine pl fun K_24 hK25 => ?_
  refine st_store (vs := [.int .i64 ((rdMaS a0).1.1), .int .i64 ((rdMaS a0).1.2.1), .slice Ar22_0_2 ((rdMaS a0).1.2.2.length) cr22_0_2]) 1 HE23 HH17 tv_24 rfl rfl rfl rfl rfl rfl (by simp [Value.oneCell']) (wt0 rfl) fun w' HH26 => hK25 _ _ ?_
  refine pl_x HE23 HH26 (wt0 rfl) (x_assign rfl) rfl rfl fun a_27 HE28 => ?_
  refine wpList_nil ?_
  clear a_9 HE10 HH8 HH15 HH16 a_11 HE12 a_18 HE19 a_20 HE21 K_13 hK14 HH17 a_22 HE23 hK25 K_24
  refine nrm ?_
  refine wp_ret ?_
  refine ret2 HE28 rfl (rv_cell rfl (tv_24.loadN (cs := [.int .i64 ((rdMaS a0).1.1), .int .i64 ((rdMaS a0).1.2.1), .slice Ar22_0_2 ((rdMaS a0).1.2.2.length) cr22_0_2]) rfl (c_blkN 1 rfl _ HH26))) (rv_tmp rfl) ?_
  have HH29 := HH26.pairF (E := eInt) (c1 := [.int .i64 ((rdMaS a0).1.2.1)]) (x := (rdMaS a0).1.2.1) (oI (by exact ⟨by omega, by omega⟩))
  have HH30 := HH29.pairF (E := eInt) (c1 := [.int .i64 ((rdMaS a0).1.1)]) (x := (rdMaS a0).1.1) (oI (by exact ⟨by omega, by omega⟩))
  obtain ⟨S23, HH31⟩ : ∃ S, Held Nob w (rO eMachine S [.int .i64 ((rdMaS a0).1.1), .int .i64 ((rdMaS a0).1.2.1), .slice Ar22_0_2 ((rdMaS a0).1.2.2.length) cr22_0_2] ((rdMaS a0).1) :: _) _ := ⟨_, HH30⟩
  have hF : (rdMaI a0) = ((rdMaS a0).1, (rdMaS a0).2) := by
    exact (rdMa_eq a0).symm
  exact ⟨_, by first | (rw [hF] <;> rfl) | rfl | (rw [hF]; simp only [Ending.returned.injEq, Value.slice.injEq, true_and, and_true]; first | omega | (simp; done)) | (rw [hF]; simp; omega), by rw [hF]; exact (HH31.o (i := 0) rfl), HH31.below⟩

open Go.Lib in
set_option maxRecDepth 100000 in
set_option maxHeartbeats 4000000 in
theorem law_ReadMachine (a0 : List UInt8) (w : World) (h0 : a0.length ≤ 9223372036854775807) (hG : Glob2 w) :
    Calls Tryz.prog 3 #[.string (bs a0)] w fun e w' => e = .returned (.bool true) ∧ Below w.heap.size w w' := by
  have n0 : (cv_Machine (rdMaI a0).1 : Int) ≤ 1000000000 := rdMa_ct a0
  have HH1 := Held.start Nob w
  refine enter (n := 66) Tryz.func3 rfl rfl rfl fun a_2 HE3 => ?_
  refine wp_seq ?_
  refine rg ?_
  refine pl_x HE3 HH1 (wt0 rfl) (x_assign rfl) rfl rfl fun a_4 HE5 => ?_
  refine wpList_nil ?_
  clear a_2 HE3
  refine nrm ?_
  refine wp_seq ?_
  refine wp_seq ?_
  refine rg ?_
  refine pl_x HE5 HH1 (wt0 rfl) (x_move rfl) rfl rfl fun a_6 HE7 => ?_
  refine pl_x HE7 HH1 (wt0 rfl) (x_lenB Tryz.underlying9 rfl) rfl rfl fun a_8 HE9 => ?_
  refine pl_x HE9 HH1 (wt0 rfl) (x_gtr rfl rfl) rfl rfl fun a_10 HE11 => ?_
  refine wpList_nil ?_
  clear a_4 HE5 a_6 HE7 a_8 HE9
  refine nrm ?_
  refine cnd_d HE11 rfl (fun hc21 => ?_) (fun hc21 => ?_)
  · refine wp_seq ?_
    refine rg ?_
    refine pl_x HE11 HH1 (wt0 rfl) (x_assign rfl) rfl rfl fun a_12 HE13 => ?_
    refine wpList_nil ?_
    clear a_10 HE11
    refine nrm ?_
    refine wp_ret ?_
    refine (thn_ret ?_)
    refine ret1 HE13 rfl (rv_tmp rfl) ?_
    have hF : true = true := by
      first | rfl | (exfalso; omega)
    exact ⟨by first | (rw [hF] <;> rfl) | rfl | (rw [hF]; simp only [Ending.returned.injEq, Value.slice.injEq, true_and, and_true]; first | omega | (simp; done)) | (rw [hF]; simp; omega), HH1.below⟩
  · refine wp_skip ?_
    refine nrm ?_
    refine wp_seq ?_
    refine rg ?_
    refine pl_x HE11 HH1 (wt0 rfl) (x_move rfl) rfl rfl fun a_14 HE15 => ?_
    refine pl fun K_16 hK17 => ?_
    refine st_call HE15 (wt0 rfl) rfl rfl rfl en_4 rfl rfl (spec_ReadMachine a0 _ (by omega)) fun e w' hr => ?_
    obtain ⟨esr22_0, rfl, hor22_0, hbr22⟩ := hr
    have hr := eMachine.read hor22_0
    obtain ⟨Sr22, HH18⟩ := HH1.newO hbr22 hor22_0
    obtain ⟨Ar22_0_2, cr22_0_2, rfl, gr22_0_0, gr22_0_1, gr22_0_2⟩ := shape_Machine hr
    have jr22_0_0 := gr22_0_0; unfold I64 at jr22_0_0
    have jr22_0_1 := gr22_0_1; unfold I64 at jr22_0_1
    refine ⟨_, rfl, fun a_19 HE20 => hK17 _ _ ?_⟩
    refine pl_x HE20 HH18 (wt0 rfl) (x_move rfl) rfl rfl fun a_21 HE22 => ?_
    refine pl_x HE22 HH18 (wt0 rfl) (x_extract rfl rfl) rfl rfl fun a_23 HE24 => ?_
    refine pl_x HE24 HH18 (wt0 rfl) (x_extract rfl rfl) rfl rfl fun a_25 HE26 => ?_
    refine pl fun K_27 hK28 => ?_
    refine st_alloc HE26 HH18 tv_24 (wt0 rfl) rfl fun q23 a_29 w' HE30 HH31 => hK28 _ _ ?_
    refine pl fun K_32 hK33 => ?_
    refine st_store (vs := [.int .i64 ((rdMaI a0).1.1), .int .i64 ((rdMaI a0).1.2.1), .slice Ar22_0_2 ((rdMaI a0).1.2.2.length) cr22_0_2]) 0 HE30 HH31 tv_24 rfl rfl rfl rfl rfl rfl (by simp [Value.oneCell']) (wt0 rfl) fun w' HH34 => hK33 _ _ ?_
    refine pl_x HE30 HH34 (wt0 rfl) (x_assign rfl) rfl rfl fun a_35 HE36 => ?_
    refine wpList_nil ?_
    clear a_10 HE11 HH1 a_14 HE15 a_19 HE20 a_21 HE22 a_23 HE24 K_16 hK17 a_25 HE26 HH18 K_27 hK28 HH31 a_29 HE30 hK33 K_32
    refine nrm ?_
    refine wp_seq ?_
    refine rg ?_
    refine pl_x HE36 HH34 (wt0 rfl) (x_move rfl) rfl rfl fun a_37 HE38 => ?_
    refine pl fun K_39 hK40 => ?_
    refine st_call HE38 (wt0 rfl) rfl rfl rfl en_5 rfl rfl (impl_ReadMachine a0 _ (HH34.glob2 hG) (by omega)) fun e w' hr => ?_
    obtain ⟨esr24_0, rfl, hor24_0, hbr24⟩ := hr
    have hr := eMachine.read hor24_0
    obtain ⟨Sr24, HH41⟩ := HH34.newO hbr24 hor24_0
    obtain ⟨Ar24_0_2, cr24_0_2, rfl, gr24_0_0, gr24_0_1, gr24_0_2⟩ := shape_Machine hr
    have jr24_0_0 := gr24_0_0; unfold I64 at jr24_0_0
    have jr24_0_1 := gr24_0_1; unfold I64 at jr24_0_1
    refine ⟨_, rfl, fun a_42 HE43 => hK40 _ _ ?_⟩
    refine pl_x HE43 HH41 (wt0 rfl) (x_move rfl) rfl rfl fun a_44 HE45 => ?_
    refine pl_x HE45 HH41 (wt0 rfl) (x_extract rfl rfl) rfl rfl fun a_46 HE47 => ?_
    refine pl_x HE47 HH41 (wt0 rfl) (x_extract rfl rfl) rfl rfl fun a_48 HE49 => ?_
    refine pl fun K_50 hK51 => ?_
    refine st_alloc HE49 HH41 tv_24 (wt0 rfl) rfl fun q25 a_52 w' HE53 HH54 => hK51 _ _ ?_
    refine pl fun K_55 hK56 => ?_
    refine st_store (vs := [.int .i64 ((rdMaI a0).1.1), .int .i64 ((rdMaI a0).1.2.1), .slice Ar24_0_2 ((rdMaI a0).1.2.2.length) cr24_0_2]) 0 HE53 HH54 tv_24 rfl rfl rfl rfl rfl rfl (by simp [Value.oneCell']) (wt0 rfl) fun w' HH57 => hK56 _ _ ?_
    refine pl_x HE53 HH57 (wt0 rfl) (x_assign rfl) rfl rfl fun a_58 HE59 => ?_
    refine wpList_nil ?_
    clear a_35 HE36 HH34 a_37 HE38 a_42 HE43 a_44 HE45 a_46 HE47 K_39 hK40 a_48 HE49 HH41 K_50 hK51 HH54 a_52 HE53 hK56 K_55
    refine nrm ?_
    refine wp_seq ?_
    refine wp_seq ?_
    refine rg ?_
    refine pl_x HE59 HH57 (wt0 rfl) (x_loadN (cs := [.int .i64 ((rdMaI a0).1.1), .int .i64 ((rdMaI a0).1.2.1), .slice Ar24_0_2 ((rdMaI a0).1.2.2.length) cr24_0_2]) tv_24 rfl rfl (c_blkN 0 rfl)) rfl rfl fun a_60 HE61 => ?_
    refine pl_x HE61 HH57 (wt0 rfl) (x_loadN (cs := [.int .i64 ((rdMaI a0).1.1), .int .i64 ((rdMaI a0).1.2.1), .slice Ar22_0_2 ((rdMaI a0).1.2.2.length) cr22_0_2]) tv_24 rfl rfl (c_blkN 2 rfl)) rfl rfl fun a_62 HE63 => ?_
    refine pl fun K_64 hK65 => ?_
    refine st_call HE63 (wt0 rfl) rfl rfl rfl en_6 rfl rfl (eq_Machine_c [.int .i64 ((rdMaI a0).1.1), .int .i64 ((rdMaI a0).1.2.1), .slice Ar24_0_2 ((rdMaI a0).1.2.2.length) cr24_0_2] [.int .i64 ((rdMaI a0).1.1), .int .i64 ((rdMaI a0).1.2.1), .slice Ar22_0_2 ((rdMaI a0).1.2.2.length) cr22_0_2] ((rdMaI a0).1) ((rdMaI a0).1) _ (HH57.rd (i := 1) rfl) (HH57.rd (i := 3) rfl)) fun e w' hr => ?_
    obtain ⟨rfl, hbr26⟩ := hr
    have HH66 := HH57.on hbr26
    clear hbr26
    refine ⟨_, rfl, fun a_67 HE68 => hK65 _ _ ?_⟩
    refine pl_x HE68 HH66 (wt0 rfl) (x_not rfl) rfl rfl fun a_69 HE70 => ?_
    refine pl_x HE70 HH66 (wt0 rfl) (x_move rfl) rfl rfl fun a_71 HE72 => ?_
    refine pl_x HE72 HH66 (wtT HE72 rfl rfl rfl (not_f (eq_Machine_refl _))) (x_move rfl) rfl rfl fun a_73 HE74 => ?_
    refine pl_x HE74 HH66 (wtT HE74 rfl rfl rfl (not_f (eq_Machine_refl _))) (x_move rfl) rfl rfl fun a_75 HE76 => ?_
    refine pl_x HE76 HH66 (wtT HE76 rfl rfl rfl (not_f (eq_Machine_refl _))) (x_bneq Tryz.underlying4 rfl rfl) rfl rfl fun a_77 HE78 => ?_
    refine pl_x HE78 HH66 (wt0 rfl) (x_pickF rfl (not_f (eq_Machine_refl _)) rfl) rfl rfl fun a_79 HE80 => ?_
    refine wpList_nil ?_
    clear a_58 HE59 a_60 HE61 HH57 a_62 HE63 a_67 HE68 a_69 HE70 a_71 HE72 a_73 HE74 a_75 HE76 a_77 HE78 hK65 K_64
    refine nrm ?_
    refine cndF HE80 rfl (not_f (beq_self_eq_true _)) ?_
    refine wp_skip ?_
    refine nrm ?_
    refine wp_seq ?_
    refine rg ?_
    refine pl_x HE80 HH66 (wt0 rfl) (x_assign rfl) rfl rfl fun a_81 HE82 => ?_
    refine wpList_nil ?_
    clear a_79 HE80
    refine nrm ?_
    refine wp_seq ?_
    refine rg ?_
    refine pl_x HE82 HH66 (wt0 rfl) (x_loadN (cs := [.int .i64 ((rdMaI a0).1.1), .int .i64 ((rdMaI a0).1.2.1), .slice Ar24_0_2 ((rdMaI a0).1.2.2.length) cr24_0_2]) tv_24 rfl rfl (c_blkN 0 rfl)) rfl rfl fun a_83 HE84 => ?_
    refine pl_x HE84 HH66 (wt0 rfl) (x_move rfl) rfl rfl fun a_85 HE86 => ?_
    refine pl fun K_87 hK88 => ?_
    refine st_call HE86 (wt0 rfl) rfl rfl rfl en_7 rfl rfl (mark_Machine_c [.int .i64 ((rdMaI a0).1.1), .int .i64 ((rdMaI a0).1.2.1), .slice Ar24_0_2 ((rdMaI a0).1.2.2.length) cr24_0_2] ((rdMaI a0).1) 1 _ _ (HH66.get (i := 1) rfl) (HH66.lt (i := 1) rfl) (by omega) (by omega)) fun e w' hr => ?_
    obtain ⟨rfl, hsr27, hcr27⟩ := hr
    have HH89 := HH66.mut (i := 1) rfl hcr27 (rO eMachine Sr24 [.int .i64 ((rdMaI a0).1.1), .int .i64 ((rdMaI a0).1.2.1), .slice Ar24_0_2 ((rdMaI a0).1.2.2.length) cr24_0_2] (mv_Machine ((rdMaI a0).1) 1)) hsr27 (fun b hb => .inl hb)
    clear hsr27 hcr27
    refine ⟨_, rfl, fun a_90 HE91 => hK88 _ _ ?_⟩
    refine pl_x HE91 HH89 (wt0 rfl) (x_assign rfl) rfl rfl fun a_92 HE93 => ?_
    refine wpList_nil ?_
    clear a_81 HE82 a_83 HE84 HH66 a_85 HE86 a_90 HE91 hK88 K_87
    refine nrm ?_
    refine wp_seq ?_
    refine rg ?_
    refine pl_x HE93 HH89 (wt0 rfl) (x_assign rfl) rfl rfl fun a_94 HE95 => ?_
    refine wpList_nil ?_
    clear a_92 HE93
    refine nrm ?_
    refine wp_seq ?_
    refine rg ?_
    refine pl_x HE95 HH89 (wt0 rfl) (x_loadN (cs := [.int .i64 ((rdMaI a0).1.1), .int .i64 ((rdMaI a0).1.2.1), .slice Ar24_0_2 ((rdMaI a0).1.2.2.length) cr24_0_2]) tv_24 rfl rfl (c_blkN 0 rfl)) rfl rfl fun a_96 HE97 => ?_
    refine pl_x HE97 HH89 (wt0 rfl) (x_move rfl) rfl rfl fun a_98 HE99 => ?_
    refine pl fun K_100 hK101 => ?_
    refine st_call HE99 (wt0 rfl) rfl rfl rfl en_8 rfl rfl (held_Machine_c [.int .i64 ((rdMaI a0).1.1), .int .i64 ((rdMaI a0).1.2.1), .slice Ar24_0_2 ((rdMaI a0).1.2.2.length) cr24_0_2] ((rdMaI a0).1) 1 _ (HH89.rd (i := 1) rfl) (by omega) (by omega)) fun e w' hr => ?_
    obtain ⟨rfl, hbr28⟩ := hr
    have HH102 := HH89.on hbr28
    clear hbr28
    refine ⟨_, rfl, fun a_103 HE104 => hK101 _ _ ?_⟩
    refine pl_x HE104 HH102 (wt0 rfl) (x_assign rfl) rfl rfl fun a_105 HE106 => ?_
    refine wpList_nil ?_
    clear a_94 HE95 a_96 HE97 HH89 a_98 HE99 a_103 HE104 hK101 K_100
    refine nrm ?_
    refine wp_seq ?_
    refine wp_seq ?_
    refine rg ?_
    refine pl_x HE106 HH102 (wt0 rfl) (x_move rfl) rfl rfl fun a_107 HE108 => ?_
    refine pl_x HE108 HH102 (wt0 rfl) (x_lss rfl rfl) rfl rfl fun a_109 HE110 => ?_
    refine wpList_nil ?_
    clear a_105 HE106 a_107 HE108
    refine nrm ?_
    refine cnd_d HE110 rfl (fun hc29 => ?_) (fun hc29 => ?_)
    · refine wp_seq ?_
      refine rg ?_
      refine pl_x HE110 HH102 (wt0 rfl) (x_assign rfl) rfl rfl fun a_111 HE112 => ?_
      refine wpList_nil ?_
      clear a_109 HE110
      refine nrm ?_
      refine wp_ret ?_
      refine (thn_ret ?_)
      refine ret1 HE112 rfl (rv_tmp rfl) ?_
      have hF : true = false := by
        first | rfl | (exfalso; omega)
      exact ⟨by first | (rw [hF] <;> rfl) | rfl | (rw [hF]; simp only [Ending.returned.injEq, Value.slice.injEq, true_and, and_true]; first | omega | (simp; done)) | (rw [hF]; simp; omega), HH102.below⟩
    · refine wp_skip ?_
      refine nrm ?_
      refine wp_seq ?_
      refine wp_seq ?_
      refine rg ?_
      refine pl_x HE110 HH102 (wt0 rfl) (x_move rfl) rfl rfl fun a_113 HE114 => ?_
      refine pl_x HE114 HH102 (wt0 rfl) (x_move rfl) rfl rfl fun a_115 HE116 => ?_
      refine pl_x HE116 HH102 (wt0 rfl) (x_neq rfl rfl) rfl rfl fun a_117 HE118 => ?_
      refine wpList_nil ?_
      clear a_109 HE110 a_113 HE114 a_115 HE116
      refine nrm ?_
      refine cndF HE118 rfl (bne_f rfl) ?_
      refine wp_skip ?_
      refine nrm ?_
      refine wp_seq ?_
      refine rg ?_
      refine pl_x HE118 HH102 (wt0 rfl) (x_move rfl) rfl rfl fun a_119 HE120 => ?_
      refine pl fun K_121 hK122 => ?_
      refine st_call HE120 (wt0 rfl) rfl rfl rfl en_5 rfl rfl (impl_ReadMachine a0 _ (HH102.glob2 hG) (by omega)) fun e w' hr => ?_
      obtain ⟨esr30_0, rfl, hor30_0, hbr30⟩ := hr
      have hr := eMachine.read hor30_0
      obtain ⟨Sr30, HH123⟩ := HH102.newO hbr30 hor30_0
      obtain ⟨Ar30_0_2, cr30_0_2, rfl, gr30_0_0, gr30_0_1, gr30_0_2⟩ := shape_Machine hr
      have jr30_0_0 := gr30_0_0; unfold I64 at jr30_0_0
      have jr30_0_1 := gr30_0_1; unfold I64 at jr30_0_1
      refine ⟨_, rfl, fun a_124 HE125 => hK122 _ _ ?_⟩
      refine pl_x HE125 HH123 (wt0 rfl) (x_move rfl) rfl rfl fun a_126 HE127 => ?_
      refine pl_x HE127 HH123 (wt0 rfl) (x_extract rfl rfl) rfl rfl fun a_128 HE129 => ?_
      refine pl_x HE129 HH123 (wt0 rfl) (x_extract rfl rfl) rfl rfl fun a_130 HE131 => ?_
      refine pl fun K_132 hK133 => ?_
      refine st_alloc HE131 HH123 tv_24 (wt0 rfl) rfl fun q31 a_134 w' HE135 HH136 => hK133 _ _ ?_
      refine pl fun K_137 hK138 => ?_
      refine st_store (vs := [.int .i64 ((rdMaI a0).1.1), .int .i64 ((rdMaI a0).1.2.1), .slice Ar30_0_2 ((rdMaI a0).1.2.2.length) cr30_0_2]) 0 HE135 HH136 tv_24 rfl rfl rfl rfl rfl rfl (by simp [Value.oneCell']) (wt0 rfl) fun w' HH139 => hK138 _ _ ?_
      refine pl_x HE135 HH139 (wt0 rfl) (x_assign rfl) rfl rfl fun a_140 HE141 => ?_
      refine wpList_nil ?_
      clear a_117 HE118 HH102 a_119 HE120 a_124 HE125 a_126 HE127 a_128 HE129 K_121 hK122 a_130 HE131 HH123 K_132 hK133 HH136 a_134 HE135 hK138 K_137
      refine nrm ?_
      refine wp_seq ?_
      refine wp_seq ?_
      refine rg ?_
      refine pl_x HE141 HH139 (wt0 rfl) (x_loadN (cs := [.int .i64 ((rdMaI a0).1.1), .int .i64 ((rdMaI a0).1.2.1), .slice Ar30_0_2 ((rdMaI a0).1.2.2.length) cr30_0_2]) tv_24 rfl rfl (c_blkN 0 rfl)) rfl rfl fun a_142 HE143 => ?_
      refine pl_x HE143 HH139 (wt0 rfl) (x_loadN (cs := [.int .i64 ((rdMaI a0).1.1), .int .i64 ((rdMaI a0).1.2.1), .slice Ar22_0_2 ((rdMaI a0).1.2.2.length) cr22_0_2]) tv_24 rfl rfl (c_blkN 4 rfl)) rfl rfl fun a_144 HE145 => ?_
      refine pl fun K_146 hK147 => ?_
      refine st_call HE145 (wt0 rfl) rfl rfl rfl en_6 rfl rfl (eq_Machine_c [.int .i64 ((rdMaI a0).1.1), .int .i64 ((rdMaI a0).1.2.1), .slice Ar30_0_2 ((rdMaI a0).1.2.2.length) cr30_0_2] [.int .i64 ((rdMaI a0).1.1), .int .i64 ((rdMaI a0).1.2.1), .slice Ar22_0_2 ((rdMaI a0).1.2.2.length) cr22_0_2] ((rdMaI a0).1) ((rdMaI a0).1) _ (HH139.rd (i := 1) rfl) (HH139.rd (i := 5) rfl)) fun e w' hr => ?_
      obtain ⟨rfl, hbr32⟩ := hr
      have HH148 := HH139.on hbr32
      clear hbr32
      refine ⟨_, rfl, fun a_149 HE150 => hK147 _ _ ?_⟩
      refine pl_x HE150 HH148 (wt0 rfl) (x_not rfl) rfl rfl fun a_151 HE152 => ?_
      refine pl_x HE152 HH148 (wt0 rfl) (x_move rfl) rfl rfl fun a_153 HE154 => ?_
      refine pl_x HE154 HH148 (wtT HE154 rfl rfl rfl (not_f (eq_Machine_refl _))) (x_move rfl) rfl rfl fun a_155 HE156 => ?_
      refine pl_x HE156 HH148 (wtT HE156 rfl rfl rfl (not_f (eq_Machine_refl _))) (x_move rfl) rfl rfl fun a_157 HE158 => ?_
      refine pl_x HE158 HH148 (wtT HE158 rfl rfl rfl (not_f (eq_Machine_refl _))) (x_bneq Tryz.underlying4 rfl rfl) rfl rfl fun a_159 HE160 => ?_
      refine pl_x HE160 HH148 (wt0 rfl) (x_pickF rfl (not_f (eq_Machine_refl _)) rfl) rfl rfl fun a_161 HE162 => ?_
      refine wpList_nil ?_
      clear a_140 HE141 a_142 HE143 HH139 a_144 HE145 a_149 HE150 a_151 HE152 a_153 HE154 a_155 HE156 a_157 HE158 a_159 HE160 hK147 K_146
      refine nrm ?_
      refine cndF HE162 rfl (not_f (beq_self_eq_true _)) ?_
      refine wp_skip ?_
      refine nrm ?_
      refine wp_seq ?_
      refine rg ?_
      refine pl_x HE162 HH148 (wt0 rfl) (x_assign rfl) rfl rfl fun a_163 HE164 => ?_
      refine wpList_nil ?_
      clear a_161 HE162
      refine nrm ?_
      refine wp_seq ?_
      refine rg ?_
      refine pl_x HE164 HH148 (wt0 rfl) (x_loadN (cs := [.int .i64 ((rdMaI a0).1.1), .int .i64 ((rdMaI a0).1.2.1), .slice Ar24_0_2 ((rdMaI a0).1.2.2.length) cr24_0_2]) tv_24 rfl rfl (c_blkN 2 rfl)) rfl rfl fun a_165 HE166 => ?_
      refine pl_x HE166 HH148 (wt0 rfl) (x_move rfl) rfl rfl fun a_167 HE168 => ?_
      refine pl fun K_169 hK170 => ?_
      refine st_call HE168 (wt0 rfl) rfl rfl rfl en_8 rfl rfl (held_Machine_c [.int .i64 ((rdMaI a0).1.1), .int .i64 ((rdMaI a0).1.2.1), .slice Ar24_0_2 ((rdMaI a0).1.2.2.length) cr24_0_2] ((rdMaI a0).1) 1 _ (HH148.rd (i := 3) rfl) (by omega) (by omega)) fun e w' hr => ?_
      obtain ⟨rfl, hbr33⟩ := hr
      have HH171 := HH148.on hbr33
      clear hbr33
      refine ⟨_, rfl, fun a_172 HE173 => hK170 _ _ ?_⟩
      refine pl_x HE173 HH171 (wt0 rfl) (x_assign rfl) rfl rfl fun a_174 HE175 => ?_
      refine wpList_nil ?_
      clear a_163 HE164 a_165 HE166 HH148 a_167 HE168 a_172 HE173 hK170 K_169
      refine nrm ?_
      refine wp_seq ?_
      refine wp_seq ?_
      refine rg ?_
      refine pl_x HE175 HH171 (wt0 rfl) (x_move rfl) rfl rfl fun a_176 HE177 => ?_
      refine pl_x HE177 HH171 (wt0 rfl) (x_lss rfl rfl) rfl rfl fun a_178 HE179 => ?_
      refine wpList_nil ?_
      clear a_174 HE175 a_176 HE177
      refine nrm ?_
      refine cndF HE179 rfl (decide_eq_false hc29) ?_
      refine wp_skip ?_
      refine nrm ?_
      refine wp_seq ?_
      refine wp_seq ?_
      refine rg ?_
      refine pl_x HE179 HH171 (wt0 rfl) (x_move rfl) rfl rfl fun a_180 HE181 => ?_
      refine pl_x HE181 HH171 (wt0 rfl) (x_move rfl) rfl rfl fun a_182 HE183 => ?_
      refine pl_x HE183 HH171 (wt0 rfl) (x_neq rfl rfl) rfl rfl fun a_184 HE185 => ?_
      refine wpList_nil ?_
      clear a_178 HE179 a_180 HE181 a_182 HE183
      refine nrm ?_
      refine cndF HE185 rfl (bne_f rfl) ?_
      refine wp_skip ?_
      refine nrm ?_
      refine wp_seq ?_
      refine rg ?_
      refine pl_x HE185 HH171 (wt0 rfl) (x_assign rfl) rfl rfl fun a_186 HE187 => ?_
      refine wpList_nil ?_
      clear a_184 HE185
      refine nrm ?_
      refine wp_ret ?_
      refine ret1 HE187 rfl (rv_tmp rfl) ?_
      have hF : true = true := by
        first | rfl | (exfalso; omega)
      exact ⟨by first | (rw [hF] <;> rfl) | rfl | (rw [hF]; simp only [Ending.returned.injEq, Value.slice.injEq, true_and, and_true]; first | omega | (simp; done)) | (rw [hF]; simp; omega), HH171.below⟩

end Go.Proofs.YthfihlfjphiihaaGreatDoor
