/- What the proof of FnExactReadMulti needs: contracts of the functions that it reaches, each once. -/
import Derived.Test.YtcfdkckchbdafaaGreatDoorProg
import Derived.Test.YtcfdkckchbdafaaGreatDoorQMem
import Derived.Test.YtcfdkckchbdafaaGreatDoorQOpen
import Derived.Test.YtcfdkckchbdafaaGreatDoorLReadMultia
import Derived.Test.YtcfdkckchbdafaaGreatDoorLReadMultib
import Derived.Test.YtcfdkckchbdafaaGreatDoorLReadMultic
import Derived.Test.YtcfdkckchbdafaaGreatDoorLReadMultid
import Derived.Test.YtcfdkckchbdafaaGreatDoorLReadMultie
import Derived.Test.YtcfdkckchbdafaaGreatDoorLReadMultif
import Derived.Test.YtcfdkckchbdafaaGreatDoorLReadMultig
import Derived.Test.YtcfdkckchbdafaaGreatDoorLReadMultih
import Derived.Test.YtcfdkckchbdafaaGreatDoorLReadMultii
import Derived.WalkKit
import Derived.WalkSpells
import Derived.Below
import Derived.LoopTactic
import Derived.Outline
import Derived.Deep.QuietTactic
import Derived.BigQuiet
import Derived.Deep.LoopGhost
import Derived.Handy
import Derived.Lib.Hide
import Derived.Shelf.Abstract
import Derived.StillTailTactics
import Derived.OwnWalk
import Derived.Maps.AppendAt
import Derived.RegionTactic
import Derived.Deep.RegionHeld3
import Derived.IntWalk
import Derived.Deep.Upon
import Derived.Laws.OwnMore
import Derived.Maps.AppendAt
import Derived.Laws.BytesString
import Derived.Laws.Strings
import Derived.Lib.Bytes
import Derived.Lib.Strings
import Derived.Lib.FrozenHead
import Derived.Lib.RuneBytes
import Derived.Lib.LaidTab
import Derived.Laws.StructEq
import Derived.Lib.MapLaws
import Derived.Lib.OthersKept
import Derived.Laws.RangeAny
import Derived.Scope
import Derived.Lib.ItoaLen
import Derived.Lib.Join
import Derived.Shelf.Strconv.Itoa4
import Derived.Shelf.Strings.OnBuilder
import Derived.Shelf.Strings.BuilderK
import Derived.Shelf.Strings.BuilderRune
import Derived.Shelf.LaysM
import Derived.Ground.NamesProg
import Derived.Lib.ParseIntBTie
import Derived.Lib.SplitLaws
import Derived.Lib.Replace
import Derived.Shelf.LaysC
import Derived.Shelf.Strconv.ErrVarParseInt
import Derived.Shelf.Strconv.ParseIntPublic10
import Derived.Shelf.Strings.Prefix
import Derived.Shelf.Strings.Cut
import Derived.Shelf.Strings.Split
import Derived.Shelf.Strings.Replace
import Derived.Shelf.Small.Wraps
import Derived.Stop.IfaceNil
import Derived.Shelf.Small.Utf8
import Derived.Shelf.Strings.Runes
namespace Go.Proofs.YtcfdkckchbdafaaGreatDoor
open Go.RowKit

open Go.Lib in
set_option maxRecDepth 100000 in
set_option maxHeartbeats 4000000 in
theorem law_ReadMulti (a0 : List UInt8) (w : World) (h0 : a0.length ≤ 9223372036854775807) (hG : Glob2 w) :
    Calls Tryz.prog 7 #[.string (bs a0)] w fun e w' => e = .returned (.bool true) ∧ Below w.heap.size w w' := by
  have n0 : (cv_Multi (rdMuI a0).1 : Int) ≤ 1000000000 := rdMu_ct a0
  have HH1 := Held.start Nob w
  refine enter (n := 66) Tryz.func7 rfl rfl rfl fun a_2 HE3 => ?_
  refine wp_seq ?_
  refine rg ?_
  refine pl_x HE3 HH1 (wt0 rfl) (x_assign rfl) rfl rfl fun a_4 HE5 => ?_
  refine wpList_nil ?_
  clear a_2 HE3
  refine nrm ?_
  refine wp_seq ?_
  refine wp_seq ?_
  refine rg ?_
  refine pl_x HE5 HH1 (wt0 rfl) (x_move rfl) rfl rfl fun a_6 HE7 => ?_
  refine pl_x HE7 HH1 (wt0 rfl) (x_lenB Tryz.underlying9 rfl) rfl rfl fun a_8 HE9 => ?_
  refine pl_x HE9 HH1 (wt0 rfl) (x_gtr rfl rfl) rfl rfl fun a_10 HE11 => ?_
  refine wpList_nil ?_
  clear a_4 HE5 a_6 HE7 a_8 HE9
  refine nrm ?_
  refine cnd_d HE11 rfl (fun hc21 => ?_) (fun hc21 => ?_)
  · refine wp_seq ?_
    refine rg ?_
    refine pl_x HE11 HH1 (wt0 rfl) (x_assign rfl) rfl rfl fun a_12 HE13 => ?_
    refine wpList_nil ?_
    clear a_10 HE11
    refine nrm ?_
    refine wp_ret ?_
    refine (thn_ret ?_)
    refine ret1 HE13 rfl (rv_tmp rfl) ?_
    have hF : true = true := by
      first | rfl | (exfalso; omega)
    exact ⟨by first | (rw [hF] <;> rfl) | rfl | (rw [hF]; simp only [Ending.returned.injEq, Value.slice.injEq, true_and, and_true]; first | omega | (simp; done)) | (rw [hF]; simp; omega), HH1.below⟩
  · refine wp_skip ?_
    refine nrm ?_
    refine wp_seq ?_
    refine rg ?_
    refine pl_x HE11 HH1 (wt0 rfl) (x_move rfl) rfl rfl fun a_14 HE15 => ?_
    refine pl fun K_16 hK17 => ?_
    refine st_call HE15 (wt0 rfl) rfl rfl rfl en_36 rfl rfl (spec_ReadMulti a0 _ (by omega)) fun e w' hr => ?_
    obtain ⟨esr22_0, rfl, hor22_0, hbr22⟩ := hr
    have hr := eMulti.read hor22_0
    obtain ⟨Sr22, HH18⟩ := HH1.newO hbr22 hor22_0
    obtain ⟨Ar22_0_3, cr22_0_3, rfl, gr22_0_0, gr22_0_1, gr22_0_2, gr22_0_3⟩ := shape_Multi hr
    have jr22_0_0 := gr22_0_0; unfold I64 at jr22_0_0
    have jr22_0_1 := gr22_0_1; unfold I64 at jr22_0_1
    have jr22_0_2 := gr22_0_2; unfold I64 at jr22_0_2
    refine ⟨_, rfl, fun a_19 HE20 => hK17 _ _ ?_⟩
    refine pl_x HE20 HH18 (wt0 rfl) (x_move rfl) rfl rfl fun a_21 HE22 => ?_
    refine pl_x HE22 HH18 (wt0 rfl) (x_extract rfl rfl) rfl rfl fun a_23 HE24 => ?_
    refine pl_x HE24 HH18 (wt0 rfl) (x_extract rfl rfl) rfl rfl fun a_25 HE26 => ?_
    refine pl fun K_27 hK28 => ?_
    refine st_alloc HE26 HH18 tv_68 (wt0 rfl) rfl fun q23 a_29 w' HE30 HH31 => hK28 _ _ ?_
    refine pl fun K_32 hK33 => ?_
    refine st_store (vs := [.int .i64 ((rdMuI a0).1.1), .int .i64 ((rdMuI a0).1.2.1), .int .i64 ((rdMuI a0).1.2.2.1), .slice Ar22_0_3 ((rdMuI a0).1.2.2.2.length) cr22_0_3]) 0 HE30 HH31 tv_68 rfl rfl rfl rfl rfl rfl (by simp [Value.oneCell']) (wt0 rfl) fun w' HH34 => hK33 _ _ ?_
    refine pl_x HE30 HH34 (wt0 rfl) (x_assign rfl) rfl rfl fun a_35 HE36 => ?_
    refine wpList_nil ?_
    clear a_10 HE11 HH1 a_14 HE15 a_19 HE20 a_21 HE22 a_23 HE24 K_16 hK17 a_25 HE26 HH18 K_27 hK28 HH31 a_29 HE30 hK33 K_32
    refine nrm ?_
    refine wp_seq ?_
    refine rg ?_
    refine pl_x HE36 HH34 (wt0 rfl) (x_move rfl) rfl rfl fun a_37 HE38 => ?_
    refine pl fun K_39 hK40 => ?_
    refine st_call HE38 (wt0 rfl) rfl rfl rfl en_37 rfl rfl (impl_ReadMulti a0 _ (HH34.glob2 hG) (by omega)) fun e w' hr => ?_
    obtain ⟨esr24_0, rfl, hor24_0, hbr24⟩ := hr
    have hr := eMulti.read hor24_0
    obtain ⟨Sr24, HH41⟩ := HH34.newO hbr24 hor24_0
    obtain ⟨Ar24_0_3, cr24_0_3, rfl, gr24_0_0, gr24_0_1, gr24_0_2, gr24_0_3⟩ := shape_Multi hr
    have jr24_0_0 := gr24_0_0; unfold I64 at jr24_0_0
    have jr24_0_1 := gr24_0_1; unfold I64 at jr24_0_1
    have jr24_0_2 := gr24_0_2; unfold I64 at jr24_0_2
    refine ⟨_, rfl, fun a_42 HE43 => hK40 _ _ ?_⟩
    refine pl_x HE43 HH41 (wt0 rfl) (x_move rfl) rfl rfl fun a_44 HE45 => ?_
    refine pl_x HE45 HH41 (wt0 rfl) (x_extract rfl rfl) rfl rfl fun a_46 HE47 => ?_
    refine pl_x HE47 HH41 (wt0 rfl) (x_extract rfl rfl) rfl rfl fun a_48 HE49 => ?_
    refine pl fun K_50 hK51 => ?_
    refine st_alloc HE49 HH41 tv_68 (wt0 rfl) rfl fun q25 a_52 w' HE53 HH54 => hK51 _ _ ?_
    refine pl fun K_55 hK56 => ?_
    refine st_store (vs := [.int .i64 ((rdMuI a0).1.1), .int .i64 ((rdMuI a0).1.2.1), .int .i64 ((rdMuI a0).1.2.2.1), .slice Ar24_0_3 ((rdMuI a0).1.2.2.2.length) cr24_0_3]) 0 HE53 HH54 tv_68 rfl rfl rfl rfl rfl rfl (by simp [Value.oneCell']) (wt0 rfl) fun w' HH57 => hK56 _ _ ?_
    refine pl_x HE53 HH57 (wt0 rfl) (x_assign rfl) rfl rfl fun a_58 HE59 => ?_
    refine wpList_nil ?_
    clear a_35 HE36 HH34 a_37 HE38 a_42 HE43 a_44 HE45 a_46 HE47 K_39 hK40 a_48 HE49 HH41 K_50 hK51 HH54 a_52 HE53 hK56 K_55
    refine nrm ?_
    refine wp_seq ?_
    refine wp_seq ?_
    refine rg ?_
    refine pl_x HE59 HH57 (wt0 rfl) (x_loadN (cs := [.int .i64 ((rdMuI a0).1.1), .int .i64 ((rdMuI a0).1.2.1), .int .i64 ((rdMuI a0).1.2.2.1), .slice Ar24_0_3 ((rdMuI a0).1.2.2.2.length) cr24_0_3]) tv_68 rfl rfl (c_blkN 0 rfl)) rfl rfl fun a_60 HE61 => ?_
    refine pl_x HE61 HH57 (wt0 rfl) (x_loadN (cs := [.int .i64 ((rdMuI a0).1.1), .int .i64 ((rdMuI a0).1.2.1), .int .i64 ((rdMuI a0).1.2.2.1), .slice Ar22_0_3 ((rdMuI a0).1.2.2.2.length) cr22_0_3]) tv_68 rfl rfl (c_blkN 2 rfl)) rfl rfl fun a_62 HE63 => ?_
    refine pl fun K_64 hK65 => ?_
    refine st_call HE63 (wt0 rfl) rfl rfl rfl en_38 rfl rfl (eq_Multi_c [.int .i64 ((rdMuI a0).1.1), .int .i64 ((rdMuI a0).1.2.1), .int .i64 ((rdMuI a0).1.2.2.1), .slice Ar24_0_3 ((rdMuI a0).1.2.2.2.length) cr24_0_3] [.int .i64 ((rdMuI a0).1.1), .int .i64 ((rdMuI a0).1.2.1), .int .i64 ((rdMuI a0).1.2.2.1), .slice Ar22_0_3 ((rdMuI a0).1.2.2.2.length) cr22_0_3] ((rdMuI a0).1) ((rdMuI a0).1) _ (HH57.rd (i := 1) rfl) (HH57.rd (i := 3) rfl)) fun e w' hr => ?_
    obtain ⟨rfl, hbr26⟩ := hr
    have HH66 := HH57.on hbr26
    clear hbr26
    refine ⟨_, rfl, fun a_67 HE68 => hK65 _ _ ?_⟩
    refine pl_x HE68 HH66 (wt0 rfl) (x_not rfl) rfl rfl fun a_69 HE70 => ?_
    refine pl_x HE70 HH66 (wt0 rfl) (x_move rfl) rfl rfl fun a_71 HE72 => ?_
    refine pl_x HE72 HH66 (wtT HE72 rfl rfl rfl (not_f (eq_Multi_refl _))) (x_move rfl) rfl rfl fun a_73 HE74 => ?_
    refine pl_x HE74 HH66 (wtT HE74 rfl rfl rfl (not_f (eq_Multi_refl _))) (x_move rfl) rfl rfl fun a_75 HE76 => ?_
    refine pl_x HE76 HH66 (wtT HE76 rfl rfl rfl (not_f (eq_Multi_refl _))) (x_bneq Tryz.underlying4 rfl rfl) rfl rfl fun a_77 HE78 => ?_
    refine pl_x HE78 HH66 (wt0 rfl) (x_pickF rfl (not_f (eq_Multi_refl _)) rfl) rfl rfl fun a_79 HE80 => ?_
    refine wpList_nil ?_
    clear a_58 HE59 a_60 HE61 HH57 a_62 HE63 a_67 HE68 a_69 HE70 a_71 HE72 a_73 HE74 a_75 HE76 a_77 HE78 hK65 K_64
    refine nrm ?_
    refine cndF HE80 rfl (not_f (beq_self_eq_true _)) ?_
    refine wp_skip ?_
    refine nrm ?_
    refine wp_seq ?_
    refine rg ?_
    refine pl_x HE80 HH66 (wt0 rfl) (x_assign rfl) rfl rfl fun a_81 HE82 => ?_
    refine wpList_nil ?_
    clear a_79 HE80
    refine nrm ?_
    refine wp_seq ?_
    refine rg ?_
    refine pl_x HE82 HH66 (wt0 rfl) (x_loadN (cs := [.int .i64 ((rdMuI a0).1.1), .int .i64 ((rdMuI a0).1.2.1), .int .i64 ((rdMuI a0).1.2.2.1), .slice Ar24_0_3 ((rdMuI a0).1.2.2.2.length) cr24_0_3]) tv_68 rfl rfl (c_blkN 0 rfl)) rfl rfl fun a_83 HE84 => ?_
    refine pl_x HE84 HH66 (wt0 rfl) (x_move rfl) rfl rfl fun a_85 HE86 => ?_
    refine pl fun K_87 hK88 => ?_
    have HH89 := HH66.sel [1, 0, 2, 3] (by decide) rfl
    have HH90 : Held Nob w ([rO eMulti Sr24 [.int .i64 ((rdMuI a0).1.1), .int .i64 ((rdMuI a0).1.2.1), .int .i64 ((rdMuI a0).1.2.2.1), .slice Ar24_0_3 ((rdMuI a0).1.2.2.2.length) cr24_0_3] ((rdMuI a0).1)] ++ [rBlk q25 68 [.int .i64 ((rdMuI a0).1.1), .int .i64 ((rdMuI a0).1.2.1), .int .i64 ((rdMuI a0).1.2.2.1), .slice Ar24_0_3 ((rdMuI a0).1.2.2.2.length) cr24_0_3], rBlk q23 68 [.int .i64 ((rdMuI a0).1.1), .int .i64 ((rdMuI a0).1.2.1), .int .i64 ((rdMuI a0).1.2.2.1), .slice Ar22_0_3 ((rdMuI a0).1.2.2.2.length) cr22_0_3], rO eMulti Sr22 [.int .i64 ((rdMuI a0).1.1), .int .i64 ((rdMuI a0).1.2.1), .int .i64 ((rdMuI a0).1.2.2.1), .slice Ar22_0_3 ((rdMuI a0).1.2.2.2.length) cr22_0_3] ((rdMuI a0).1)]) _ := HH89
    refine st_call HE86 (wt0 rfl) rfl rfl rfl en_39 rfl rfl (mark_Multi_h (Foot [rO eMulti Sr24 [.int .i64 ((rdMuI a0).1.1), .int .i64 ((rdMuI a0).1.2.1), .int .i64 ((rdMuI a0).1.2.2.1), .slice Ar24_0_3 ((rdMuI a0).1.2.2.2.length) cr24_0_3] ((rdMuI a0).1)]) [.int .i64 ((rdMuI a0).1.1), .int .i64 ((rdMuI a0).1.2.1), .int .i64 ((rdMuI a0).1.2.2.1), .slice Ar24_0_3 ((rdMuI a0).1.2.2.2.length) cr24_0_3] ((rdMuI a0).1) _ 1 _ HH90.focus (by omega) (by omega)) fun e w' hr => ?_
    obtain ⟨Sr27, rfl, hbr27⟩ := hr
    have HH91 := HH90.back hbr27
    clear hbr27
    have HH92 : Held Nob w (rO eMulti Sr27 [.int .i64 ((rdMuI a0).1.1), .int .i64 ((rdMuI a0).1.2.1), .int .i64 ((rdMuI a0).1.2.2.1), .slice Ar24_0_3 ((rdMuI a0).1.2.2.2.length) cr24_0_3] (mv_Multi ((rdMuI a0).1) 1) :: [rBlk q25 68 [.int .i64 ((rdMuI a0).1.1), .int .i64 ((rdMuI a0).1.2.1), .int .i64 ((rdMuI a0).1.2.2.1), .slice Ar24_0_3 ((rdMuI a0).1.2.2.2.length) cr24_0_3], rBlk q23 68 [.int .i64 ((rdMuI a0).1.1), .int .i64 ((rdMuI a0).1.2.1), .int .i64 ((rdMuI a0).1.2.2.1), .slice Ar22_0_3 ((rdMuI a0).1.2.2.2.length) cr22_0_3], rO eMulti Sr22 [.int .i64 ((rdMuI a0).1.1), .int .i64 ((rdMuI a0).1.2.1), .int .i64 ((rdMuI a0).1.2.2.1), .slice Ar22_0_3 ((rdMuI a0).1.2.2.2.length) cr22_0_3] ((rdMuI a0).1)]) _ := HH91
    refine ⟨_, rfl, fun a_93 HE94 => hK88 _ _ ?_⟩
    refine pl_x HE94 HH92 (wt0 rfl) (x_assign rfl) rfl rfl fun a_95 HE96 => ?_
    refine wpList_nil ?_
    clear a_81 HE82 a_83 HE84 HH66 HH89 HH90 HH91 a_85 HE86 a_93 HE94 hK88 K_87
    refine nrm ?_
    refine wp_seq ?_
    refine rg ?_
    refine pl_x HE96 HH92 (wt0 rfl) (x_assign rfl) rfl rfl fun a_97 HE98 => ?_
    refine wpList_nil ?_
    clear a_95 HE96
    refine nrm ?_
    refine wp_seq ?_
    refine rg ?_
    refine pl_x HE98 HH92 (wt0 rfl) (x_loadN (cs := [.int .i64 ((rdMuI a0).1.1), .int .i64 ((rdMuI a0).1.2.1), .int .i64 ((rdMuI a0).1.2.2.1), .slice Ar24_0_3 ((rdMuI a0).1.2.2.2.length) cr24_0_3]) tv_68 rfl rfl (c_blkN 1 rfl)) rfl rfl fun a_99 HE100 => ?_
    refine pl_x HE100 HH92 (wt0 rfl) (x_move rfl) rfl rfl fun a_101 HE102 => ?_
    refine pl fun K_103 hK104 => ?_
    refine st_call HE102 (wt0 rfl) rfl rfl rfl en_40 rfl rfl (held_Multi_e [.int .i64 ((rdMuI a0).1.1), .int .i64 ((rdMuI a0).1.2.1), .int .i64 ((rdMuI a0).1.2.2.1), .slice Ar24_0_3 ((rdMuI a0).1.2.2.2.length) cr24_0_3] (mv_Multi ((rdMuI a0).1) 1) 1 ((rdMuI a0).1) _ (HH92.rd (i := 0) rfl) rfl (by omega) (by omega)) fun e w' hr => ?_
    obtain ⟨rfl, hbr28⟩ := hr
    have HH105 := HH92.on hbr28
    clear hbr28
    refine ⟨_, rfl, fun a_106 HE107 => hK104 _ _ ?_⟩
    refine pl_x HE107 HH105 (wt0 rfl) (x_assign rfl) rfl rfl fun a_108 HE109 => ?_
    refine wpList_nil ?_
    clear a_97 HE98 a_99 HE100 HH92 a_101 HE102 a_106 HE107 hK104 K_103
    refine nrm ?_
    refine wp_seq ?_
    refine wp_seq ?_
    refine rg ?_
    refine pl_x HE109 HH105 (wt0 rfl) (x_move rfl) rfl rfl fun a_110 HE111 => ?_
    refine pl_x HE111 HH105 (wt0 rfl) (x_lss rfl rfl) rfl rfl fun a_112 HE113 => ?_
    refine wpList_nil ?_
    clear a_108 HE109 a_110 HE111
    refine nrm ?_
    refine cnd_d HE113 rfl (fun hc29 => ?_) (fun hc29 => ?_)
    · refine wp_seq ?_
      refine rg ?_
      refine pl_x HE113 HH105 (wt0 rfl) (x_assign rfl) rfl rfl fun a_114 HE115 => ?_
      refine wpList_nil ?_
      clear a_112 HE113
      refine nrm ?_
      refine wp_ret ?_
      refine (thn_ret ?_)
      refine ret1 HE115 rfl (rv_tmp rfl) ?_
      have hF : true = false := by
        first | rfl | (exfalso; omega)
      exact ⟨by first | (rw [hF] <;> rfl) | rfl | (rw [hF]; simp only [Ending.returned.injEq, Value.slice.injEq, true_and, and_true]; first | omega | (simp; done)) | (rw [hF]; simp; omega), HH105.below⟩
    · refine wp_skip ?_
      refine nrm ?_
      refine wp_seq ?_
      refine wp_seq ?_
      refine rg ?_
      refine pl_x HE113 HH105 (wt0 rfl) (x_move rfl) rfl rfl fun a_116 HE117 => ?_
      refine pl_x HE117 HH105 (wt0 rfl) (x_move rfl) rfl rfl fun a_118 HE119 => ?_
      refine pl_x HE119 HH105 (wt0 rfl) (x_neq rfl rfl) rfl rfl fun a_120 HE121 => ?_
      refine wpList_nil ?_
      clear a_112 HE113 a_116 HE117 a_118 HE119
      refine nrm ?_
      refine cndF HE121 rfl (bne_f rfl) ?_
      refine wp_skip ?_
      refine nrm ?_
      refine wp_seq ?_
      refine rg ?_
      refine pl_x HE121 HH105 (wt0 rfl) (x_move rfl) rfl rfl fun a_122 HE123 => ?_
      refine pl fun K_124 hK125 => ?_
      refine st_call HE123 (wt0 rfl) rfl rfl rfl en_37 rfl rfl (impl_ReadMulti a0 _ (HH105.glob2 hG) (by omega)) fun e w' hr => ?_
      obtain ⟨esr30_0, rfl, hor30_0, hbr30⟩ := hr
      have hr := eMulti.read hor30_0
      obtain ⟨Sr30, HH126⟩ := HH105.newO hbr30 hor30_0
      obtain ⟨Ar30_0_3, cr30_0_3, rfl, gr30_0_0, gr30_0_1, gr30_0_2, gr30_0_3⟩ := shape_Multi hr
      have jr30_0_0 := gr30_0_0; unfold I64 at jr30_0_0
      have jr30_0_1 := gr30_0_1; unfold I64 at jr30_0_1
      have jr30_0_2 := gr30_0_2; unfold I64 at jr30_0_2
      refine ⟨_, rfl, fun a_127 HE128 => hK125 _ _ ?_⟩
      refine pl_x HE128 HH126 (wt0 rfl) (x_move rfl) rfl rfl fun a_129 HE130 => ?_
      refine pl_x HE130 HH126 (wt0 rfl) (x_extract rfl rfl) rfl rfl fun a_131 HE132 => ?_
      refine pl_x HE132 HH126 (wt0 rfl) (x_extract rfl rfl) rfl rfl fun a_133 HE134 => ?_
      refine pl fun K_135 hK136 => ?_
      refine st_alloc HE134 HH126 tv_68 (wt0 rfl) rfl fun q31 a_137 w' HE138 HH139 => hK136 _ _ ?_
      refine pl fun K_140 hK141 => ?_
      refine st_store (vs := [.int .i64 ((rdMuI a0).1.1), .int .i64 ((rdMuI a0).1.2.1), .int .i64 ((rdMuI a0).1.2.2.1), .slice Ar30_0_3 ((rdMuI a0).1.2.2.2.length) cr30_0_3]) 0 HE138 HH139 tv_68 rfl rfl rfl rfl rfl rfl (by simp [Value.oneCell']) (wt0 rfl) fun w' HH142 => hK141 _ _ ?_
      refine pl_x HE138 HH142 (wt0 rfl) (x_assign rfl) rfl rfl fun a_143 HE144 => ?_
      refine wpList_nil ?_
      clear a_120 HE121 HH105 a_122 HE123 a_127 HE128 a_129 HE130 a_131 HE132 K_124 hK125 a_133 HE134 HH126 K_135 hK136 HH139 a_137 HE138 hK141 K_140
      refine nrm ?_
      refine wp_seq ?_
      refine wp_seq ?_
      refine rg ?_
      refine pl_x HE144 HH142 (wt0 rfl) (x_loadN (cs := [.int .i64 ((rdMuI a0).1.1), .int .i64 ((rdMuI a0).1.2.1), .int .i64 ((rdMuI a0).1.2.2.1), .slice Ar30_0_3 ((rdMuI a0).1.2.2.2.length) cr30_0_3]) tv_68 rfl rfl (c_blkN 0 rfl)) rfl rfl fun a_145 HE146 => ?_
      refine pl_x HE146 HH142 (wt0 rfl) (x_loadN (cs := [.int .i64 ((rdMuI a0).1.1), .int .i64 ((rdMuI a0).1.2.1), .int .i64 ((rdMuI a0).1.2.2.1), .slice Ar22_0_3 ((rdMuI a0).1.2.2.2.length) cr22_0_3]) tv_68 rfl rfl (c_blkN 4 rfl)) rfl rfl fun a_147 HE148 => ?_
      refine pl fun K_149 hK150 => ?_
      refine st_call HE148 (wt0 rfl) rfl rfl rfl en_38 rfl rfl (eq_Multi_c [.int .i64 ((rdMuI a0).1.1), .int .i64 ((rdMuI a0).1.2.1), .int .i64 ((rdMuI a0).1.2.2.1), .slice Ar30_0_3 ((rdMuI a0).1.2.2.2.length) cr30_0_3] [.int .i64 ((rdMuI a0).1.1), .int .i64 ((rdMuI a0).1.2.1), .int .i64 ((rdMuI a0).1.2.2.1), .slice Ar22_0_3 ((rdMuI a0).1.2.2.2.length) cr22_0_3] ((rdMuI a0).1) ((rdMuI a0).1) _ (HH142.rd (i := 1) rfl) (HH142.rd (i := 5) rfl)) fun e w' hr => ?_
      obtain ⟨rfl, hbr32⟩ := hr
      have HH151 := HH142.on hbr32
      clear hbr32
      refine ⟨_, rfl, fun a_152 HE153 => hK150 _ _ ?_⟩
      refine pl_x HE153 HH151 (wt0 rfl) (x_not rfl) rfl rfl fun a_154 HE155 => ?_
      refine pl_x HE155 HH151 (wt0 rfl) (x_move rfl) rfl rfl fun a_156 HE157 => ?_
      refine pl_x HE157 HH151 (wtT HE157 rfl rfl rfl (not_f (eq_Multi_refl _))) (x_move rfl) rfl rfl fun a_158 HE159 => ?_
      refine pl_x HE159 HH151 (wtT HE159 rfl rfl rfl (not_f (eq_Multi_refl _))) (x_move rfl) rfl rfl fun a_160 HE161 => ?_
      refine pl_x HE161 HH151 (wtT HE161 rfl rfl rfl (not_f (eq_Multi_refl _))) (x_bneq Tryz.underlying4 rfl rfl) rfl rfl fun a_162 HE163 => ?_
      refine pl_x HE163 HH151 (wt0 rfl) (x_pickF rfl (not_f (eq_Multi_refl _)) rfl) rfl rfl fun a_164 HE165 => ?_
      refine wpList_nil ?_
      clear a_143 HE144 a_145 HE146 HH142 a_147 HE148 a_152 HE153 a_154 HE155 a_156 HE157 a_158 HE159 a_160 HE161 a_162 HE163 hK150 K_149
      refine nrm ?_
      refine cndF HE165 rfl (not_f (beq_self_eq_true _)) ?_
      refine wp_skip ?_
      refine nrm ?_
      refine wp_seq ?_
      refine rg ?_
      refine pl_x HE165 HH151 (wt0 rfl) (x_assign rfl) rfl rfl fun a_166 HE167 => ?_
      refine wpList_nil ?_
      clear a_164 HE165
      refine nrm ?_
      refine wp_seq ?_
      refine rg ?_
      refine pl_x HE167 HH151 (wt0 rfl) (x_loadN (cs := [.int .i64 ((rdMuI a0).1.1), .int .i64 ((rdMuI a0).1.2.1), .int .i64 ((rdMuI a0).1.2.2.1), .slice Ar24_0_3 ((rdMuI a0).1.2.2.2.length) cr24_0_3]) tv_68 rfl rfl (c_blkN 3 rfl)) rfl rfl fun a_168 HE169 => ?_
      refine pl_x HE169 HH151 (wt0 rfl) (x_move rfl) rfl rfl fun a_170 HE171 => ?_
      refine pl fun K_172 hK173 => ?_
      refine st_call HE171 (wt0 rfl) rfl rfl rfl en_40 rfl rfl (held_Multi_e [.int .i64 ((rdMuI a0).1.1), .int .i64 ((rdMuI a0).1.2.1), .int .i64 ((rdMuI a0).1.2.2.1), .slice Ar24_0_3 ((rdMuI a0).1.2.2.2.length) cr24_0_3] (mv_Multi ((rdMuI a0).1) 1) 1 ((rdMuI a0).1) _ (HH151.rd (i := 2) rfl) rfl (by omega) (by omega)) fun e w' hr => ?_
      obtain ⟨rfl, hbr33⟩ := hr
      have HH174 := HH151.on hbr33
      clear hbr33
      refine ⟨_, rfl, fun a_175 HE176 => hK173 _ _ ?_⟩
      refine pl_x HE176 HH174 (wt0 rfl) (x_assign rfl) rfl rfl fun a_177 HE178 => ?_
      refine wpList_nil ?_
      clear a_166 HE167 a_168 HE169 HH151 a_170 HE171 a_175 HE176 hK173 K_172
      refine nrm ?_
      refine wp_seq ?_
      refine wp_seq ?_
      refine rg ?_
      refine pl_x HE178 HH174 (wt0 rfl) (x_move rfl) rfl rfl fun a_179 HE180 => ?_
      refine pl_x HE180 HH174 (wt0 rfl) (x_lss rfl rfl) rfl rfl fun a_181 HE182 => ?_
      refine wpList_nil ?_
      clear a_177 HE178 a_179 HE180
      refine nrm ?_
      refine cndF HE182 rfl (decide_eq_false hc29) ?_
      refine wp_skip ?_
      refine nrm ?_
      refine wp_seq ?_
      refine wp_seq ?_
      refine rg ?_
      refine pl_x HE182 HH174 (wt0 rfl) (x_move rfl) rfl rfl fun a_183 HE184 => ?_
      refine pl_x HE184 HH174 (wt0 rfl) (x_move rfl) rfl rfl fun a_185 HE186 => ?_
      refine pl_x HE186 HH174 (wt0 rfl) (x_neq rfl rfl) rfl rfl fun a_187 HE188 => ?_
      refine wpList_nil ?_
      clear a_181 HE182 a_183 HE184 a_185 HE186
      refine nrm ?_
      refine cndF HE188 rfl (bne_f rfl) ?_
      refine wp_skip ?_
      refine nrm ?_
      refine wp_seq ?_
      refine rg ?_
      refine pl_x HE188 HH174 (wt0 rfl) (x_assign rfl) rfl rfl fun a_189 HE190 => ?_
      refine wpList_nil ?_
      clear a_187 HE188
      refine nrm ?_
      refine wp_ret ?_
      refine ret1 HE190 rfl (rv_tmp rfl) ?_
      have hF : true = true := by
        first | rfl | (exfalso; omega)
      exact ⟨by first | (rw [hF] <;> rfl) | rfl | (rw [hF]; simp only [Ending.returned.injEq, Value.slice.injEq, true_and, and_true]; first | omega | (simp; done)) | (rw [hF]; simp; omega), HH174.below⟩

end Go.Proofs.YtcfdkckchbdafaaGreatDoor
