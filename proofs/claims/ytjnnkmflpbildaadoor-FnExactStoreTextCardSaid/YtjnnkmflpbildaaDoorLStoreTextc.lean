/- What the proof of FnExactStoreText needs: contracts of the functions that it reaches, each once. -/
import Derived.Test.YtjnnkmflpbildaaDoorProg
import Derived.Test.YtjnnkmflpbildaaDoorQMem
import Derived.Test.YtjnnkmflpbildaaDoorQOpen
import Derived.Test.YtjnnkmflpbildaaDoorLStoreTexta
import Derived.Test.YtjnnkmflpbildaaDoorLStoreTextb
import Derived.WalkKit
import Derived.WalkSpells
import Derived.Below
import Derived.LoopTactic
import Derived.Outline
import Derived.Deep.QuietTactic
import Derived.BigQuiet
import Derived.Deep.LoopGhost
import Derived.Handy
import Derived.Lib.Hide
import Derived.Shelf.Abstract
import Derived.StillTailTactics
import Derived.OwnWalk
import Derived.Maps.AppendAt
import Derived.RegionTactic
import Derived.Deep.RegionHeld3
import Derived.IntWalk
import Derived.Deep.Upon
import Derived.Laws.OwnMore
import Derived.Maps.AppendAt
import Derived.Laws.BytesString
import Derived.Laws.Strings
import Derived.Lib.Bytes
import Derived.Lib.Strings
import Derived.Lib.FrozenHead
import Derived.Lib.RuneBytes
import Derived.Lib.LaidTab
import Derived.Laws.StructEq
import Derived.Lib.ItoaLen
import Derived.Lib.Join
import Derived.Shelf.Strconv.Itoa4
import Derived.Shelf.Strings.OnBuilder
import Derived.Shelf.Strings.BuilderK
import Derived.Shelf.Strings.BuilderRune
import Derived.Shelf.LaysM
import Derived.Ground.NamesProg
namespace Go.Proofs.YtjnnkmflpbildaaDoor
open Go.RowKit

set_option maxRecDepth 100000 in
set_option maxHeartbeats 4000000 in
theorem law_StoreText (A0 : Option Addr) (c0 : Nat) (a0 : (List tInstr)) (es1 : List Value) (a1 : tStore) (w : World) (h0 : Sl eInstr w (Old w) A0 c0 a0) (h1 : eStore.R w (Old w) es1 a1) (hG : Glob w) :
    Calls Tryd.prog 7 #[.slice A0 a0.length c0, .agg es1.toArray] w fun e w' => e = .returned (.bool true) ∧ Below w.heap.size w w' := by
  have l0 := h0.len
  have H1 := h1
  obtain ⟨Az1_1, cz1_1, rfl, gz1_0, gz1_1⟩ := shape_Store h1
  have jz1_0 := gz1_0; unfold I64 at jz1_0
  have lz1_1 := gz1_1.len
  have HH1 := Held.start Nob w
  refine enter (n := 45) Tryd.func7 rfl rfl rfl fun a_2 HE3 => ?_
  refine wp_seq ?_
  refine rg ?_
  refine pl fun K_4 hK5 => ?_
  refine st_box (cs := [.int .i64 (a1.1), .slice Az1_1 (a1.2.length) cz1_1]) HE3 HH1 rfl rfl (wt0 rfl) rfl fun q21 a_6 w' HE7 HH8 => hK5 _ _ ?_
  refine pl_x HE7 HH8 (wt0 rfl) (x_assign rfl) rfl rfl fun a_9 HE10 => ?_
  refine wpList_nil ?_
  clear a_2 HE3 HH1 a_6 HE7 hK5 K_4
  refine nrm ?_
  refine wp_seq ?_
  refine rg ?_
  refine pl_x HE10 HH8 (wt0 rfl) (x_assign rfl) rfl rfl fun a_11 HE12 => ?_
  refine wpList_nil ?_
  clear a_9 HE10
  refine nrm ?_
  refine wp_seq ?_
  refine rg ?_
  refine pl_x HE12 HH8 (wt0 rfl) (x_move rfl) rfl rfl fun a_13 HE14 => ?_
  refine pl_x HE14 HH8 (wt0 rfl) (x_move rfl) rfl rfl fun a_15 HE16 => ?_
  refine pl fun K_17 hK18 => ?_
  refine st_call HE16 (wt0 rfl) rfl rfl rfl en_19 rfl rfl (sz_InstrS _ _ a0 1048576 _ (HH8.old h0) (by omega) (by omega)) fun e w' hr => ?_
  obtain ⟨rfl, hbr22⟩ := hr
  have HH19 := HH8.on hbr22
  clear hbr22
  refine ⟨_, rfl, fun a_20 HE21 => hK18 _ _ ?_⟩
  refine pl_x HE21 HH19 (wt0 rfl) (x_assign rfl) rfl rfl fun a_22 HE23 => ?_
  refine wpList_nil ?_
  clear a_11 HE12 a_13 HE14 HH8 a_15 HE16 a_20 HE21 hK18 K_17
  refine nrm ?_
  refine wp_seq ?_
  refine wp_seq ?_
  refine rg ?_
  refine pl_x HE23 HH19 (wt0 rfl) (x_move rfl) rfl rfl fun a_24 HE25 => ?_
  refine pl_x HE25 HH19 (wt0 rfl) (x_lss rfl rfl) rfl rfl fun a_26 HE27 => ?_
  refine wpList_nil ?_
  clear a_22 HE23 a_24 HE25
  refine nrm ?_
  refine cnd_d HE27 rfl (fun hc23 => ?_) (fun hc23 => ?_)
  · refine wp_seq ?_
    refine rg ?_
    refine pl_x HE27 HH19 (wt0 rfl) (x_assign rfl) rfl rfl fun a_28 HE29 => ?_
    refine wpList_nil ?_
    clear a_26 HE27
    refine nrm ?_
    refine wp_ret ?_
    refine (thn_ret ?_)
    refine ret1 HE29 rfl (rv_tmp rfl) ?_
    have hF : true = true := by
      first | rfl | (exfalso; omega)
    exact ⟨by first | (rw [hF] <;> rfl) | rfl | (rw [hF]; simp only [Ending.returned.injEq, Value.slice.injEq, true_and, and_true]; first | omega | (simp; done)) | (rw [hF]; simp; omega), HH19.below⟩
  · have zr22 := left_ok hc23
    refine wp_skip ?_
    refine nrm ?_
    refine wp_seq ?_
    refine rg ?_
    refine pl_x HE27 HH19 (wt0 rfl) (x_loadN (cs := [.int .i64 (a1.1), .slice Az1_1 (a1.2.length) cz1_1]) tv_53 rfl rfl (c_blkN 0 rfl)) rfl rfl fun a_30 HE31 => ?_
    refine pl_x HE31 HH19 (wt0 rfl) (x_move rfl) rfl rfl fun a_32 HE33 => ?_
    refine pl fun K_34 hK35 => ?_
    refine st_call HE33 (wt0 rfl) rfl rfl rfl en_29 rfl rfl (sz_Store [.int .i64 (a1.1), .slice Az1_1 (a1.2.length) cz1_1] a1 (left 1048576 (cost_SInstr a0)) _ (HH19.oldR H1) (by omega) (by omega)) fun e w' hr => ?_
    obtain ⟨rfl, hbr24⟩ := hr
    have HH36 := HH19.on hbr24
    clear hbr24
    refine ⟨_, rfl, fun a_37 HE38 => hK35 _ _ ?_⟩
    refine pl_x HE38 HH36 (wt0 rfl) (x_assign rfl) rfl rfl fun a_39 HE40 => ?_
    refine wpList_nil ?_
    clear a_26 HE27 a_30 HE31 HH19 a_32 HE33 a_37 HE38 hK35 K_34
    refine nrm ?_
    refine wp_seq ?_
    refine wp_seq ?_
    refine rg ?_
    refine pl_x HE40 HH36 (wt0 rfl) (x_move rfl) rfl rfl fun a_41 HE42 => ?_
    refine pl_x HE42 HH36 (wt0 rfl) (x_lss rfl rfl) rfl rfl fun a_43 HE44 => ?_
    refine wpList_nil ?_
    clear a_39 HE40 a_41 HE42
    refine nrm ?_
    refine cnd_d HE44 rfl (fun hc25 => ?_) (fun hc25 => ?_)
    · refine wp_seq ?_
      refine rg ?_
      refine pl_x HE44 HH36 (wt0 rfl) (x_assign rfl) rfl rfl fun a_45 HE46 => ?_
      refine wpList_nil ?_
      clear a_43 HE44
      refine nrm ?_
      refine wp_ret ?_
      refine (thn_ret ?_)
      refine ret1 HE46 rfl (rv_tmp rfl) ?_
      have hF : true = true := by
        first | rfl | (exfalso; omega)
      exact ⟨by first | (rw [hF] <;> rfl) | rfl | (rw [hF]; simp only [Ending.returned.injEq, Value.slice.injEq, true_and, and_true]; first | omega | (simp; done)) | (rw [hF]; simp; omega), HH36.below⟩
    · have zr24 := left_ok hc25
      refine wp_skip ?_
      refine nrm ?_
      refine wp_seq ?_
      refine dr_start (Held Nob w [rBlk q21 53 [.int .i64 (a1.1), .slice Az1_1 (a1.2.length) cz1_1]]) 6 #[false, false, false, false, false, false] hmix rfl rfl HH36 (fun _ h => h.sel [0] (by decide) rfl) fun w' HH47 => ?_
      have HS48 := HH47
      refine dr_take (i := 0) (ls' := #[true, false, false, false, false, false]) HE44 HS48 rfl (by kernel_rfl) (by kernel_rfl) (by kernel_rfl) (fun _ _ _ h => h) rfl (wt0 rfl) (x_move rfl) rfl rfl fun a_49 HE50 => ?_
      refine dr_take (i := 2) (ls' := #[true, false, true, false, false, false]) HE50 HS48 rfl (by kernel_rfl) (by kernel_rfl) (by kernel_rfl) (fun _ _ _ h => h) rfl (wt0 rfl) (x_loadN (cs := [.int .i64 (a1.1), .slice Az1_1 (a1.2.length) cz1_1]) tv_53 rfl rfl (c_blkN 0 rfl)) rfl rfl fun a_51 HE52 => ?_
      refine dr_one (i := 1) (ls' := #[true, true, true, false, false, false]) rfl (by kernel_rfl) rfl fun K_53 hK54 => ?_
      refine st_call HE52 (wt0 rfl) rfl rfl rfl en_21 rfl rfl (to_InstrS _ _ a0 _ (HH47.old h0) (by omega)) fun e w' hr => ?_
      obtain ⟨Ar26, cr26, rfl, hor26, hbr26⟩ := hr
      obtain ⟨Sr26, HH55⟩ := HH47.newS hbr26 hor26
      clear hbr26 hor26
      refine ⟨_, rfl, fun a_56 HE57 => hK54 _ _ (by exact HH55.sel [1] (by decide) rfl) ?_⟩
      have HS58 := HH55.sel [1] (by decide) rfl
      refine dr_one (i := 3) (ls' := #[true, true, true, true, false, false]) rfl (by kernel_rfl) rfl fun K_59 hK60 => ?_
      refine st_call HE57 (wt0 rfl) rfl rfl rfl en_31 rfl rfl (to_Store [.int .i64 (a1.1), .slice Az1_1 (a1.2.length) cz1_1] a1 _ (HH55.oldR H1) (by omega)) fun e w' hr => ?_
      obtain ⟨esr27, rfl, hor27, hbr27⟩ := hr
      have hr := eStore.read hor27
      obtain ⟨Sr27, HH61⟩ := HH55.newO hbr27 hor27
      obtain ⟨Ar27_1, cr27_1, rfl, gr27_0, gr27_1⟩ := shape_Store hr
      clear hbr27 hor27 gr27_0 gr27_1
      refine ⟨_, rfl, fun a_62 HE63 => hK60 _ _ (by exact HH61.sel [2] (by decide) rfl) ?_⟩
      have HS64 := HH61.sel [2] (by decide) rfl
      refine dr_one (i := 4) (ls' := #[true, true, true, true, true, false]) rfl (by kernel_rfl) rfl fun K_65 hK66 => ?_
      refine st_call HE63 (wt0 rfl) rfl rfl rfl en_30 rfl rfl (spec_StoreText _ _ a0 [.int .i64 (a1.1), .slice Ar27_1 (a1.2.length) cr27_1] a1 _ (HH61.sl (i := 1) rfl) (HH61.rd (i := 0) rfl)) fun e w' hr => ?_
      obtain ⟨rfl, hbr28⟩ := hr
      have HH67 := HH61.on hbr28
      refine ⟨_, rfl, fun a_68 HE69 => hK66 _ _ (by exact HH67.sel [2] (by decide) rfl) ?_⟩
      have HS70 := HH67.sel [2] (by decide) rfl
      refine dr_take (i := 5) (ls' := #[true, true, true, true, true, true]) HE69 HS70 rfl (by kernel_rfl) (by kernel_rfl) (by kernel_rfl) (fun _ _ _ h => h) rfl (wt0 rfl) (x_assign rfl) rfl rfl fun a_71 HE72 => ?_
      refine dr_done (by kernel_rfl) ?_
      clear HH36 a_43 HE44 a_49 HE50 HH47 a_51 HE52 HS48 K_53 hK54 HH55 a_56 HE57 HS58 K_59 hK60 HH61 a_62 HE63 HS64 a_68 HE69 hK66 K_65
      refine nrm ?_
      refine wp_seq ?_
      refine rg ?_
      refine pl_x HE72 HH67 (wt0 rfl) (x_move rfl) rfl rfl fun a_73 HE74 => ?_
      refine pl fun K_75 hK76 => ?_
      refine st_call HE74 (wt0 rfl) rfl rfl rfl en_21 rfl rfl (to_InstrS _ _ a0 _ (HH67.old h0) (by omega)) fun e w' hr => ?_
      obtain ⟨Ar29, cr29, rfl, hor29, hbr29⟩ := hr
      obtain ⟨Sr29, HH77⟩ := HH67.newS hbr29 hor29
      clear hbr29 hor29
      refine ⟨_, rfl, fun a_78 HE79 => hK76 _ _ ?_⟩
      refine pl_x HE79 HH77 (wt0 rfl) (x_assign rfl) rfl rfl fun a_80 HE81 => ?_
      refine wpList_nil ?_
      clear a_71 HE72 HH67 a_73 HE74 a_78 HE79 hK76 K_75
      refine nrm ?_
      refine wp_seq ?_
      refine rg ?_
      refine pl_x HE81 HH77 (wt0 rfl) (x_loadN (cs := [.int .i64 (a1.1), .slice Az1_1 (a1.2.length) cz1_1]) tv_53 rfl rfl (c_blkN 3 rfl)) rfl rfl fun a_82 HE83 => ?_
      refine pl fun K_84 hK85 => ?_
      refine st_call HE83 (wt0 rfl) rfl rfl rfl en_31 rfl rfl (to_Store [.int .i64 (a1.1), .slice Az1_1 (a1.2.length) cz1_1] a1 _ (HH77.oldR H1) (by omega)) fun e w' hr => ?_
      obtain ⟨esr30, rfl, hor30, hbr30⟩ := hr
      have hr := eStore.read hor30
      obtain ⟨Sr30, HH86⟩ := HH77.newO hbr30 hor30
      obtain ⟨Ar30_1, cr30_1, rfl, gr30_0, gr30_1⟩ := shape_Store hr
      clear hbr30 hor30 gr30_0 gr30_1
      refine ⟨_, rfl, fun a_87 HE88 => hK85 _ _ ?_⟩
      refine pl fun K_89 hK90 => ?_
      refine st_alloc HE88 HH86 tv_56 (wt0 rfl) rfl fun q31 a_91 w' HE92 HH93 => hK90 _ _ ?_
      refine pl fun K_94 hK95 => ?_
      refine st_store (vs := [.int .i64 (a1.1), .slice Ar30_1 (a1.2.length) cr30_1]) 0 HE92 HH93 tv_56 rfl rfl rfl rfl rfl rfl (by simp [Value.oneCell']) (wt0 rfl) fun w' HH96 => hK95 _ _ ?_
      refine wpList_nil ?_
      clear a_80 HE81 HH77 a_82 HE83 K_84 hK85 a_87 HE88 HH86 K_89 hK90 HH93 hK95 K_94
      refine nrm ?_
      refine wp_seq ?_
      refine rg ?_
      refine pl_x HE92 HH96 (wt0 rfl) (x_move rfl) rfl rfl fun a_97 HE98 => ?_
      refine pl_x HE98 HH96 (wt0 rfl) (x_loadN (cs := [.int .i64 (a1.1), .slice Ar30_1 (a1.2.length) cr30_1]) tv_56 rfl rfl (c_blkN 0 rfl)) rfl rfl fun a_99 HE100 => ?_
      refine pl fun K_101 hK102 => ?_
      refine st_call HE100 (wt0 rfl) rfl rfl rfl en_32 rfl rfl (impl_StoreText _ _ a0 [.int .i64 (a1.1), .slice Ar30_1 (a1.2.length) cr30_1] a1 _ (HH96.sl (i := 2) rfl) (HH96.rd (i := 1) rfl) (HH96.glob hG)) fun e w' hr => ?_
      obtain ⟨rfl, hbr32⟩ := hr
      have HH103 := HH96.on hbr32
      refine ⟨_, rfl, fun a_104 HE105 => hK102 _ _ ?_⟩
      refine pl_x HE105 HH103 (wt0 rfl) (x_assign rfl) rfl rfl fun a_106 HE107 => ?_
      refine wpList_nil ?_
      clear a_91 HE92 a_97 HE98 HH96 a_99 HE100 a_104 HE105 hK102 K_101
      refine nrm ?_
      refine wp_seq ?_
      refine wp_seq ?_
      refine rg ?_
      refine pl_x HE107 HH103 (wt0 rfl) (x_move rfl) rfl rfl fun a_108 HE109 => ?_
      refine pl_x HE109 HH103 (wt0 rfl) (x_move rfl) rfl rfl fun a_110 HE111 => ?_
      refine pl_x HE111 HH103 (wt0 rfl) (x_sneqB rfl rfl) rfl rfl fun a_112 HE113 => ?_
      refine wpList_nil ?_
      clear a_106 HE107 a_108 HE109 a_110 HE111
      refine nrm ?_
      refine cndF HE113 rfl (not_f (decide_eq_true rfl)) ?_
      refine wp_skip ?_
      refine nrm ?_
      refine wp_seq ?_
      refine wp_seq ?_
      refine rg ?_
      refine pl_x HE113 HH103 (wt0 rfl) (x_move rfl) rfl rfl fun a_114 HE115 => ?_
      refine pl_x HE115 HH103 (wt0 rfl) (x_move rfl) rfl rfl fun a_116 HE117 => ?_
      refine pl fun K_118 hK119 => ?_
      refine st_call HE117 (wt0 rfl) rfl rfl rfl en_21 rfl rfl (to_InstrS _ _ a0 _ (HH103.old h0) (by omega)) fun e w' hr => ?_
      obtain ⟨Ar33, cr33, rfl, hor33, hbr33⟩ := hr
      obtain ⟨Sr33, HH120⟩ := HH103.newS hbr33 hor33
      clear hbr33 hor33
      refine ⟨_, rfl, fun a_121 HE122 => hK119 _ _ ?_⟩
      refine pl fun K_123 hK124 => ?_
      refine st_call HE122 (wt0 rfl) rfl rfl rfl en_23 rfl rfl (eq_SInstr_c _ _ _ _ a0 a0 _ (HH120.sl (i := 3) rfl) (HH120.sl (i := 0) rfl)) fun e w' hr => ?_
      obtain ⟨rfl, hbr34⟩ := hr
      have HH125 := HH120.on hbr34
      clear hbr34
      refine ⟨_, rfl, fun a_126 HE127 => hK124 _ _ ?_⟩
      refine pl_x HE127 HH125 (wt0 rfl) (x_not rfl) rfl rfl fun a_128 HE129 => ?_
      refine wpList_nil ?_
      clear a_112 HE113 a_114 HE115 HH103 a_116 HE117 K_118 hK119 HH120 a_121 HE122 a_126 HE127 hK124 K_123
      refine nrm ?_
      refine cndF HE129 rfl (not_f (eq_SInstr_refl _)) ?_
      refine wp_skip ?_
      refine nrm ?_
      refine wp_seq ?_
      refine wp_seq ?_
      refine dr_start (Held Nob w [rSo eInstr Sr33 Ar33 cr33 a0, rBlk q31 56 [.int .i64 (a1.1), .slice Ar30_1 (a1.2.length) cr30_1], rO eStore Sr30 [.int .i64 (a1.1), .slice Ar30_1 (a1.2.length) cr30_1] a1, rSo eInstr Sr29 Ar29 cr29 a0, rO eStore Sr27 [.int .i64 (a1.1), .slice Ar27_1 (a1.2.length) cr27_1] a1, rSo eInstr Sr26 Ar26 cr26 a0, rBlk q21 53 [.int .i64 (a1.1), .slice Az1_1 (a1.2.length) cz1_1]]) 5 #[false, false, false, false, false] hmix rfl rfl HH125 (fun _ h => h.sel [0, 1, 2, 3, 4, 5, 6] (by decide) rfl) fun w' HH130 => ?_
      have HS131 := HH130
      refine dr_take (i := 0) (ls' := #[true, false, false, false, false]) HE129 HS131 rfl (by kernel_rfl) (by kernel_rfl) (by kernel_rfl) (fun _ _ _ h => h) rfl (wt0 rfl) (x_loadN (cs := [.int .i64 (a1.1), .slice Ar30_1 (a1.2.length) cr30_1]) tv_56 rfl rfl (c_blkN 1 rfl)) rfl rfl fun a_132 HE133 => ?_
      refine dr_take (i := 1) (ls' := #[true, true, false, false, false]) HE133 HS131 rfl (by kernel_rfl) (by kernel_rfl) (by kernel_rfl) (fun _ _ _ h => h) rfl (wt0 rfl) (x_loadN (cs := [.int .i64 (a1.1), .slice Az1_1 (a1.2.length) cz1_1]) tv_53 rfl rfl (c_blkN 6 rfl)) rfl rfl fun a_134 HE135 => ?_
      refine dr_one (i := 2) (ls' := #[true, true, true, false, false]) rfl (by kernel_rfl) rfl fun K_136 hK137 => ?_
      refine st_call HE135 (wt0 rfl) rfl rfl rfl en_31 rfl rfl (to_Store [.int .i64 (a1.1), .slice Az1_1 (a1.2.length) cz1_1] a1 _ (HH130.oldR H1) (by omega)) fun e w' hr => ?_
      obtain ⟨esr35, rfl, hor35, hbr35⟩ := hr
      have hr := eStore.read hor35
      obtain ⟨Sr35, HH138⟩ := HH130.newO hbr35 hor35
      obtain ⟨Ar35_1, cr35_1, rfl, gr35_0, gr35_1⟩ := shape_Store hr
      clear hbr35 hor35 gr35_0 gr35_1
      refine ⟨_, rfl, fun a_139 HE140 => hK137 _ _ (by exact HH138.sel [1, 2, 3, 4, 5, 6, 7] (by decide) rfl) ?_⟩
      have HS141 := HH138.sel [1, 2, 3, 4, 5, 6, 7] (by decide) rfl
      refine dr_one (i := 3) (ls' := #[true, true, true, true, false]) rfl (by kernel_rfl) rfl fun K_142 hK143 => ?_
      refine st_call HE140 (wt0 rfl) rfl rfl rfl en_33 rfl rfl (eq_Store_c [.int .i64 (a1.1), .slice Ar30_1 (a1.2.length) cr30_1] [.int .i64 (a1.1), .slice Ar35_1 (a1.2.length) cr35_1] a1 a1 _ (HH138.rd (i := 3) rfl) (HH138.rd (i := 0) rfl)) fun e w' hr => ?_
      obtain ⟨rfl, hbr36⟩ := hr
      have HH144 := HH138.on hbr36
      clear hbr36
      refine ⟨_, rfl, fun a_145 HE146 => hK143 _ _ (by exact HH144.sel [1, 2, 3, 4, 5, 6, 7] (by decide) rfl) ?_⟩
      have HS147 := HH144.sel [1, 2, 3, 4, 5, 6, 7] (by decide) rfl
      refine dr_take (i := 4) (ls' := #[true, true, true, true, true]) HE146 HS147 rfl (by kernel_rfl) (by kernel_rfl) (by kernel_rfl) (fun _ _ _ h => h) rfl (wt0 rfl) (x_not rfl) rfl rfl fun a_148 HE149 => ?_
      refine dr_done (by kernel_rfl) ?_
      clear HH125 HS70 a_128 HE129 a_132 HE133 HH130 a_134 HE135 HS131 K_136 hK137 HH138 a_139 HE140 HS141 a_145 HE146 hK143 K_142
      refine nrm ?_
      refine cndF HE149 rfl (not_f (eq_Store_refl _)) ?_
      refine wp_skip ?_
      refine nrm ?_
      refine wp_seq ?_
      refine rg ?_
      refine pl_x HE149 HH144 (wt0 rfl) (x_assign rfl) rfl rfl fun a_150 HE151 => ?_
      refine wpList_nil ?_
      clear a_148 HE149
      refine nrm ?_
      refine wp_ret ?_
      refine ret1 HE151 rfl (rv_tmp rfl) ?_
      have hF : true = true := by
        first | rfl | (exfalso; omega)
      exact ⟨by first | (rw [hF] <;> rfl) | rfl | (rw [hF]; simp only [Ending.returned.injEq, Value.slice.injEq, true_and, and_true]; first | omega | (simp; done)) | (rw [hF]; simp; omega), HH144.below⟩

end Go.Proofs.YtjnnkmflpbildaaDoor
