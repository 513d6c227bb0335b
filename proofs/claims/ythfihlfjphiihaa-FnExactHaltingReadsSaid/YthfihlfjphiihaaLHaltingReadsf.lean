/- What the proof of FnExactHaltingReads needs: contracts of the functions that it reaches, each once. -/
import Derived.Test.YthfihlfjphiihaaProg
import Derived.Test.YthfihlfjphiihaaQMem
import Derived.Test.YthfihlfjphiihaaQOpen
import Derived.Test.YthfihlfjphiihaaLHaltingReadsa
import Derived.Test.YthfihlfjphiihaaLHaltingReadsb
import Derived.Test.YthfihlfjphiihaaLHaltingReadsc
import Derived.Test.YthfihlfjphiihaaLHaltingReadsd
import Derived.Test.YthfihlfjphiihaaLHaltingReadse
import Derived.WalkKit
import Derived.WalkSpells
import Derived.Below
import Derived.LoopTactic
import Derived.Outline
import Derived.Deep.QuietTactic
import Derived.BigQuiet
import Derived.Deep.LoopGhost
import Derived.Handy
import Derived.Lib.Hide
import Derived.Shelf.Abstract
import Derived.StillTailTactics
import Derived.OwnWalk
import Derived.Maps.AppendAt
import Derived.RegionTactic
import Derived.Deep.RegionHeld3
import Derived.IntWalk
import Derived.Deep.Upon
import Derived.Laws.OwnMore
import Derived.Maps.AppendAt
import Derived.Laws.Small
import Derived.Lib.FrozenHead
import Derived.Lib.RuneBytes
import Derived.Lib.LaidTab
import Derived.Laws.StructEq
import Derived.Maps.OwnSet
import Derived.DeepKeys4
import Derived.Lib.SliceRun
import Derived.Lib.AppendZeros
import Derived.Lib.ItoaLen
import Derived.Lib.Join
import Derived.Shelf.Strconv.Itoa4
import Derived.Shelf.Strings.OnBuilder
import Derived.Shelf.Strings.BuilderK
import Derived.Shelf.Strings.BuilderRune
import Derived.Shelf.LaysM
import Derived.Ground.NamesProg
namespace Go.Proofs.Ythfihlfjphiihaa
open Go.RowKit

set_option maxRecDepth 100000 in
set_option maxHeartbeats 4000000 in
theorem impl_fill1 (M : Nat → Prop) (a0 : Nat) (p1 : Nat) (es1 : List Value) (a1 : tMulti) (p2 : Nat) (es2 : List Value) (a2 : Int) (p3 : Nat) (A3 : Option Addr) (c3 n3 : Nat) (a3 : (List Int)) (S3 : Nat → Prop) (p4 g4 : Nat) (a4 : List tKey) (p5 : Nat) (A5 : Option Addr) (c5 : Nat) (a5 : (List (List Int))) (S5 : Nat → Prop) (p6 : Nat) (f : Nat) (ih : ∀ (M : Nat → Prop) (a0 : Nat) (p1 : Nat) (es1 : List Value) (a1 : tMulti) (p2 : Nat) (es2 : List Value) (a2 : Int) (p3 : Nat) (A3 : Option Addr) (c3 n3 : Nat) (a3 : (List Int)) (S3 : Nat → Prop) (p4 g4 : Nat) (a4 : List tKey) (p5 : Nat) (A5 : Option Addr) (c5 : Nat) (a5 : (List (List Int))) (S5 : Nat → Prop) (p6 : Nat) (w : World) (HM : Held M w [rBlk p3 37 [.slice A3 n3 c3], rSo eInt S3 A3 c3 a3, rBlk p5 50 [.slice A5 a5.length c5], rVec (eSl eInt) 37 S5 A5 c5 a5] w) (h1 : eMulti.R w (Out M w) es1 a1) (hq1 : ∀ j v, es1[j]? = some v → w.cell? ⟨p1, 0 + j, none⟩ = some v) (Nhq1 : ¬ M p1) (h2 : eInt.R w (Out M w) es2 a2) (hq2 : ∀ j v, es2[j]? = some v → w.cell? ⟨p2, 0 + j, none⟩ = some v) (Nhq2 : ¬ M p2) (hn3 : a3.length = n3) (hq4 : ∀ j v, ([.map (some g4)] : List Value)[j]? = some v → w.cell? ⟨p4, 0 + j, none⟩ = some v) (Nhq4 : ¬ M p4) (h4 : MapK w g4 a4) (Ng4 : ¬ M g4) (hq6 : ∀ j v, ([.func (.func 104) #[] #[.pointer (some ⟨p1, 0, none⟩), .pointer (some ⟨p2, 0, none⟩), .pointer (some ⟨p3, 0, none⟩), .pointer (some ⟨p4, 0, none⟩), .pointer (some ⟨p5, 0, none⟩), .pointer (some ⟨p6, 0, none⟩)]] : List Value)[j]? = some v → w.cell? ⟨p6, 0 + j, none⟩ = some v) (Nhq6 : ¬ M p6) (s1 : a3.length = a1.1.toNat) (s2 : a0 ≤ a1.1.toNat) (s3 : a1.1.toNat < f + a0) (s4 : 1 ≤ a1.1 ∧ a1.1 ≤ 3) (s5 : 1 ≤ a1.2.1 ∧ a1.2.1 ≤ 100) (s6 : a5.length + a1.2.1.toNat ^ (a1.1.toNat - a0) ≤ 1000000), Calls Try.prog 104 #[.int .i64 (a0 : Int), .pointer (some ⟨p1, 0, none⟩), .pointer (some ⟨p2, 0, none⟩), .pointer (some ⟨p3, 0, none⟩), .pointer (some ⟨p4, 0, none⟩), .pointer (some ⟨p5, 0, none⟩), .pointer (some ⟨p6, 0, none⟩)] w fun e w' => ∃ (S3' : Nat → Prop) (A5' : Option Addr) (c5' : Nat) (S5' : Nat → Prop), e = .returned (.tuple #[]) ∧ Held M w [rBlk p3 37 [.slice A3 n3 c3], rSo eInt S3' A3 c3 (fillF a4 a2 a1.1.toNat a1.2.1.toNat (f) a0 a3 a5).1, rBlk p5 50 [.slice A5' (List.length ((fillF a4 a2 a1.1.toNat a1.2.1.toNat (f) a0 a3 a5).2)) c5'], rVec (eSl eInt) 37 S5' A5' c5' ((fillF a4 a2 a1.1.toNat a1.2.1.toNat (f) a0 a3 a5).2)] w') (w : World) (HM : Held M w [rBlk p3 37 [.slice A3 n3 c3], rSo eInt S3 A3 c3 a3, rBlk p5 50 [.slice A5 a5.length c5], rVec (eSl eInt) 37 S5 A5 c5 a5] w) (h1 : eMulti.R w (Out M w) es1 a1) (hq1 : ∀ j v, es1[j]? = some v → w.cell? ⟨p1, 0 + j, none⟩ = some v) (Nhq1 : ¬ M p1) (h2 : eInt.R w (Out M w) es2 a2) (hq2 : ∀ j v, es2[j]? = some v → w.cell? ⟨p2, 0 + j, none⟩ = some v) (Nhq2 : ¬ M p2) (hn3 : a3.length = n3) (hq4 : ∀ j v, ([.map (some g4)] : List Value)[j]? = some v → w.cell? ⟨p4, 0 + j, none⟩ = some v) (Nhq4 : ¬ M p4) (h4 : MapK w g4 a4) (Ng4 : ¬ M g4) (hq6 : ∀ j v, ([.func (.func 104) #[] #[.pointer (some ⟨p1, 0, none⟩), .pointer (some ⟨p2, 0, none⟩), .pointer (some ⟨p3, 0, none⟩), .pointer (some ⟨p4, 0, none⟩), .pointer (some ⟨p5, 0, none⟩), .pointer (some ⟨p6, 0, none⟩)]] : List Value)[j]? = some v → w.cell? ⟨p6, 0 + j, none⟩ = some v) (Nhq6 : ¬ M p6) (s1 : a3.length = a1.1.toNat) (s2 : a0 ≤ a1.1.toNat) (s3 : a1.1.toNat < f + 1 + a0) (s4 : 1 ≤ a1.1 ∧ a1.1 ≤ 3) (s5 : 1 ≤ a1.2.1 ∧ a1.2.1 ≤ 100) (s6 : a5.length + a1.2.1.toNat ^ (a1.1.toNat - a0) ≤ 1000000) :
    Calls Try.prog 104 #[.int .i64 (a0 : Int), .pointer (some ⟨p1, 0, none⟩), .pointer (some ⟨p2, 0, none⟩), .pointer (some ⟨p3, 0, none⟩), .pointer (some ⟨p4, 0, none⟩), .pointer (some ⟨p5, 0, none⟩), .pointer (some ⟨p6, 0, none⟩)] w fun e w' => ∃ (S3' : Nat → Prop) (A5' : Option Addr) (c5' : Nat) (S5' : Nat → Prop), e = .returned (.tuple #[]) ∧ Held M w [rBlk p3 37 [.slice A3 n3 c3], rSo eInt S3' A3 c3 (fillF a4 a2 a1.1.toNat a1.2.1.toNat (f + 1) a0 a3 a5).1, rBlk p5 50 [.slice A5' (List.length ((fillF a4 a2 a1.1.toNat a1.2.1.toNat (f + 1) a0 a3 a5).2)) c5'], rVec (eSl eInt) 37 S5' A5' c5' ((fillF a4 a2 a1.1.toNat a1.2.1.toNat (f + 1) a0 a3 a5).2)] w' := by
  have H1 := h1
  obtain ⟨Az1_3, cz1_3, rfl, gz1_0, gz1_1, gz1_2, gz1_3⟩ := shape_Multi h1
  have jz1_0 := gz1_0; unfold I64 at jz1_0
  have jz1_1 := gz1_1; unfold I64 at jz1_1
  have jz1_2 := gz1_2; unfold I64 at jz1_2
  have lz1_3 := gz1_3.len
  have H2 := h2
  obtain ⟨rfl, iz2⟩ := h2
  have jz2 := iz2; unfold I64 at jz2
  have HH1 := HM
  have lv3 := (HH1.sl (i := 1) rfl).len
  have lv5 := (HH1.vecSl (i := 3) rfl).len
  refine enter (n := 54) Try.func104 rfl rfl rfl fun a_2 HE3 => ?_
  refine wp_seq ?_
  refine wp_seq ?_
  refine rg ?_
  refine pl_x HE3 HH1 (wt0 rfl) (x_move rfl) rfl rfl fun a_4 HE5 => ?_
  refine pl_x HE5 HH1 (wt0 rfl) (x_fieldAddr fa_55_0 rfl) rfl rfl fun a_6 HE7 => ?_
  refine pl_x HE7 HH1 (wt0 rfl) (x_load1 tv_2 rfl (c_oldM Nhq1 (hq1 0 _ rfl))) rfl rfl fun a_8 HE9 => ?_
  refine pl_x HE9 HH1 (wt0 rfl) (x_eql rfl rfl) rfl rfl fun a_10 HE11 => ?_
  refine wpList_nil ?_
  clear a_2 HE3 a_4 HE5 a_6 HE7 a_8 HE9
  refine nrm ?_
  refine cnd_e HE11 rfl (fun hc21 => ?_) (fun hc21 => ?_)
  · refine wp_seq ?_
    refine rg ?_
    refine pl_x HE11 HH1 (wt0 rfl) (x_load1 tv_2 rfl (c_oldM Nhq2 (hq2 0 _ rfl))) rfl rfl fun a_12 HE13 => ?_
    refine pl_x HE13 HH1 (wt0 rfl) (x_buildR rfl) rfl rfl fun a_14 HE15 => ?_
    refine pl fun K_16 hK17 => ?_
    refine st_alloc HE15 HH1 tv_137 (wt0 rfl) rfl fun q22 a_18 w' HE19 HH20 => hK17 _ _ ?_
    refine pl fun K_21 hK22 => ?_
    refine st_store (vs := [.int .i64 (a2), .int .i64 (0), .int .i64 (0), .int .i64 (0)]) 0 HE19 HH20 tv_137 rfl rfl rfl rfl rfl rfl (by simp [Value.oneCell']) (wt0 rfl) fun w' HH23 => hK22 _ _ ?_
    refine wpList_nil ?_
    clear a_10 HE11 a_12 HE13 a_14 HE15 HH1 K_16 hK17 HH20 hK22 K_21
    refine nrm ?_
    refine wp_seq ?_
    refine dr_start (Held M w [rBlk p3 37 [.slice A3 (n3) c3], rSo eInt S3 A3 c3 a3, rBlk p5 50 [.slice A5 (a5.length) c5], rVec (eSl eInt) 37 S5 A5 c5 a5]) 4 #[false, false, false, false] hmix rfl rfl HH23 (fun _ h => h.sel [1, 2, 3, 4] (by decide) rfl) fun w' HH24 => ?_
    have HS25 := HH24.sel [1, 2, 3, 4] (by decide) rfl
    refine dr_take (i := 0) (ls' := #[true, false, false, false]) HE19 HS25 rfl (by kernel_rfl) (by kernel_rfl) (by kernel_rfl) (fun _ _ _ h => h) rfl (wt0 rfl) (x_fieldAddr fa_137_1 rfl) rfl rfl fun a_26 HE27 => ?_
    refine dr_take (i := 1) (ls' := #[true, true, false, false]) HE27 HS25 rfl (by kernel_rfl) (by kernel_rfl) (by kernel_rfl) (fun _ _ _ h => h) rfl (wt0 rfl) (x_sliceArr Try.underlying135 tv_2 rfl) rfl rfl fun a_28 HE29 => ?_
    refine dr_take (i := 2) (ls' := #[true, true, true, false]) HE29 HS25 rfl (by kernel_rfl) (by kernel_rfl) (by kernel_rfl) (fun _ _ _ h => h) rfl (wt0 rfl) (x_load1 tv_37 rfl (c_blk 0 rfl rfl)) rfl rfl fun a_30 HE31 => ?_
    refine dr_one (i := 3) (ls' := #[true, true, true, true]) rfl (by kernel_rfl) rfl fun K_32 hK33 => ?_
    refine st_copyA (ys := a3) 0 HE31 HH24 ts_37 rfl rfl rfl (by first | rfl | omega) (HH24.sl (i := 2) rfl) (by omega) (wt0 rfl) rfl fun a_34 w' HE35 HH36 hI23 => hK33 _ _ (by exact HH36.sel [1, 2, 3, 4] (by decide) rfl) ?_
    have HS37 := HH36.sel [1, 2, 3, 4] (by decide) rfl
    refine dr_done (by kernel_rfl) ?_
    clear HH23 a_18 HE19 a_26 HE27 a_28 HE29 a_30 HE31 HH24 HS25 hK33 K_32
    refine nrm ?_
    refine wp_seq ?_
    refine wp_seq ?_
    refine rg ?_
    refine pl_x HE35 HH36 (wt0 rfl) (x_load1 tv_133 rfl (c_oldM Nhq4 (hq4 0 _ rfl))) rfl rfl fun a_38 HE39 => ?_
    refine pl_x HE39 HH36 (wt0 rfl) (x_loadN (cs := [.int .i64 (a2), .int .i64 ((a3[0]?.getD 0)), .int .i64 ((a3[1]?.getD 0)), .int .i64 ((a3[2]?.getD 0))]) tv_137 rfl rfl (c_blkN 0 rfl)) rfl rfl fun a_40 HE41 => ?_
    refine pl fun K_42 hK43 => ?_
    refine st_lookup (k := (a2, (a3[0]?.getD 0), (a3[1]?.getD 0), (a3[2]?.getD 0))) HE41 (HH36.mapOM h4 Ng4) rfl rfl ⟨⟨by omega, by omega⟩, hI23 0, hI23 1, hI23 2⟩ (wt0 rfl) rfl fun v24 a_44 HE45 => hK43 _ _ ?_
    refine pl_x HE45 HH36 (wt0 rfl) (x_move rfl) rfl rfl fun a_46 HE47 => ?_
    refine pl_x HE47 HH36 (wt0 rfl) (x_extract rfl rfl) rfl rfl fun a_48 HE49 => ?_
    refine pl_x HE49 HH36 (wt0 rfl) (x_extract rfl rfl) rfl rfl fun a_50 HE51 => ?_
    refine pl_x HE51 HH36 (wt0 rfl) (x_assign rfl) rfl rfl fun a_52 HE53 => ?_
    refine pl_x HE53 HH36 (wt0 rfl) (x_assign rfl) rfl rfl fun a_54 HE55 => ?_
    refine wpList_nil ?_
    clear a_34 HE35 a_38 HE39 a_40 HE41 a_44 HE45 a_46 HE47 a_48 HE49 a_50 HE51 a_52 HE53 hK43 K_42
    refine nrm ?_
    refine wp_seq ?_
    refine rg ?_
    refine pl_x HE55 HH36 (wt0 rfl) (x_move rfl) rfl rfl fun a_56 HE57 => ?_
    refine pl_x HE57 HH36 (wt0 rfl) (x_not rfl) rfl rfl fun a_58 HE59 => ?_
    refine wpList_nil ?_
    clear a_54 HE55 a_56 HE57
    refine nrm ?_
    refine cnd_nd HE59 rfl (fun hc25 => ?_) (fun hc25 => ?_)
    · refine dr_start (Held M w [rBlk q22 137 [.int .i64 (a2), .int .i64 ((a3[0]?.getD 0)), .int .i64 ((a3[1]?.getD 0)), .int .i64 ((a3[2]?.getD 0))], rBlk p3 37 [.slice A3 (n3) c3], rSo eInt S3 A3 c3 a3]) 6 #[false, false, false, false, false, false] hmix rfl rfl HH36 (fun _ h => h.sel [0, 1, 2] (by decide) rfl) fun w' HH60 => ?_
      have HS61 := HH60.sel [0, 1, 2] (by decide) rfl
      refine dr_take (i := 1) (ls' := #[false, true, false, false, false, false]) HE59 HS61 rfl (by kernel_rfl) (by kernel_rfl) (by kernel_rfl) (fun _ _ _ h => h) rfl (wt0 rfl) (x_load1 tv_37 rfl (c_blk 1 rfl rfl)) rfl rfl fun a_62 HE63 => ?_
      refine dr_two (i := 0) (j := 2) (ls' := #[true, true, false, false, false, false]) (ls'' := #[false, true, true, false, false, false]) rfl rfl (by kernel_rfl) rfl rfl (fun K_64 hK65 => ?_) (fun K_64 hK65 => ?_)
      · refine st_x HE63 HH60 (wt0 rfl) (x_load1 tv_50 rfl (c_blk 3 rfl rfl)) rfl rfl fun a_66 HE67 => hK65 _ _ HS61 ?_
        refine dr_one (i := 2) (ls' := #[true, true, true, false, false, false]) rfl (by kernel_rfl) rfl fun K_68 hK69 => ?_
        have HE70 := HE67.castS (t := 30) (m' := List.length a3) rfl (by first | omega | (simp; done) | (simp; omega))
        refine st_call HE70 (wt0 rfl) rfl rfl rfl en_72 rfl rfl (Clone_Int64 _ _ a3 _ (HH60.sl (i := 2) rfl) (by omega)) fun e w' hr => ?_
        obtain ⟨Ar26_0, cr26_0, rfl, hor26_0, hbr26⟩ := hr
        obtain ⟨Sr26, HH71⟩ := HH60.newS hbr26 hor26_0
        refine ⟨_, rfl, fun a_72 HE73 => hK69 _ _ (by exact HH71.sel [1, 2, 3] (by decide) rfl) ?_⟩
        have HS74 := HH71.sel [1, 2, 3] (by decide) rfl
        refine dr_one (i := 3) (ls' := #[true, true, true, true, false, false]) rfl (by kernel_rfl) rfl fun K_75 hK76 => ?_
        refine st_lit (m := 1) (cs := [.slice Ar26_0 (a3.length) cr26_0]) (e := 37) HE73 HH71 (run_lit ts_50 HE73 (vs := [.slice Ar26_0 (a3.length) cr26_0]) rfl rfl (by simp [Value.cells]) rfl (by decide)) (wt0 rfl) rfl rfl fun q27 a_77 w' HE78 HH79 => hK76 _ _ (by exact HH79.sel [2, 3, 4] (by decide) rfl) ?_
        have HS80 := HH79.sel [2, 3, 4] (by decide) rfl
        refine dr_one (i := 4) (ls' := #[true, true, true, true, true, false]) rfl (by kernel_rfl) rfl fun K_81 hK82 => ?_
        refine st_app1 HE78 HH79 ts_50 [6, 1, 0, 2, 3, 4, 5] (by decide) rfl rfl rfl (by simp [Value.oneCell']) (by unfold maxLen; first | omega | (simp; done) | (simp; omega)) (by first | omega | (simp; done) | (simp; omega)) (wt0 rfl) rfl fun A28 c29 S30 a_83 w' HE84 HH85 => hK82 _ _ (by exact HH85.sel [2, 3, 4] (by decide) rfl) ?_
        have HS86 := HH85.sel [2, 3, 4] (by decide) rfl
        refine dr_one (i := 5) (ls' := #[true, true, true, true, true, true]) rfl (by kernel_rfl) rfl fun K_87 hK88 => ?_
        refine st_store (vs := [.slice A28 ((a5 ++ [a3]).length) c29]) 5 HE84 HH85 tv_50 rfl rfl rfl rfl rfl rfl (by simp [Value.oneCell']) (wt0 rfl) fun w' HH89 => hK88 _ _ (by exact HH89.sel [2, 3, 4] (by decide) rfl) ?_
        have HS90 := HH89.sel [2, 3, 4] (by decide) rfl
        refine dr_done (by kernel_rfl) ?_
        clear HH36 HS37 a_58 HE59 a_62 HE63 K_64 hK65 HE67 HH60 a_66 HE70 HS61 K_68 hK69 a_72 HE73 HH71 HS74 K_75 hK76 a_77 HE78 HH79 HS80 K_81 hK82 HH85 HS86 hK88 K_87
        refine nrm ?_
        refine wp_ret ?_
        refine (thn_ret ?_)
        refine ret0 HE84 rfl ?_
        have hF : (fillF a4 a2 a1.1.toNat a1.2.1.toNat (f + 1) a0 a3 a5) = (a3, (a5 ++ [a3])) := by
          first | (rw [fillF_top (by omega), if_pos (by assumption)]; done) | (rw [fillF_top (by omega), if_neg (by assumption)]; done) | (rw [fillF_go (by omega), show a1.2.1.toNat = v from by omega])
        exact ⟨_, _, _, _, rfl, by rw [hF]; exact HH89.sel [3, 4, 5, 0] (by decide) rfl⟩
      · have HE91 := HE63.castS (t := 30) (m' := List.length a3) rfl (by first | omega | (simp; done) | (simp; omega))
        refine st_call HE91 (wt0 rfl) rfl rfl rfl en_72 rfl rfl (Clone_Int64 _ _ a3 _ (HH60.sl (i := 2) rfl) (by omega)) fun e w' hr => ?_
        obtain ⟨Ar31_0, cr31_0, rfl, hor31_0, hbr31⟩ := hr
        obtain ⟨Sr31, HH92⟩ := HH60.newS hbr31 hor31_0
        refine ⟨_, rfl, fun a_93 HE94 => hK65 _ _ (by exact HH92.sel [1, 2, 3] (by decide) rfl) ?_⟩
        have HS95 := HH92.sel [1, 2, 3] (by decide) rfl
        refine dr_two (i := 0) (j := 3) (ls' := #[true, true, true, false, false, false]) (ls'' := #[false, true, true, true, false, false]) rfl rfl (by kernel_rfl) rfl rfl (fun K_96 hK97 => ?_) (fun K_96 hK97 => ?_)
        · refine st_x HE94 HH92 (wt0 rfl) (x_load1 tv_50 rfl (c_blk 4 rfl rfl)) rfl rfl fun a_98 HE99 => hK97 _ _ HS95 ?_
          refine dr_one (i := 3) (ls' := #[true, true, true, true, false, false]) rfl (by kernel_rfl) rfl fun K_100 hK101 => ?_
          refine st_lit (m := 1) (cs := [.slice Ar31_0 (a3.length) cr31_0]) (e := 37) HE99 HH92 (run_lit ts_50 HE99 (vs := [.slice Ar31_0 (a3.length) cr31_0]) rfl rfl (by simp [Value.cells]) rfl (by decide)) (wt0 rfl) rfl rfl fun q32 a_102 w' HE103 HH104 => hK101 _ _ (by exact HH104.sel [2, 3, 4] (by decide) rfl) ?_
          have HS105 := HH104.sel [2, 3, 4] (by decide) rfl
          refine dr_one (i := 4) (ls' := #[true, true, true, true, true, false]) rfl (by kernel_rfl) rfl fun K_106 hK107 => ?_
          refine st_app1 HE103 HH104 ts_50 [6, 1, 0, 2, 3, 4, 5] (by decide) rfl rfl rfl (by simp [Value.oneCell']) (by unfold maxLen; first | omega | (simp; done) | (simp; omega)) (by first | omega | (simp; done) | (simp; omega)) (wt0 rfl) rfl fun A33 c34 S35 a_108 w' HE109 HH110 => hK107 _ _ (by exact HH110.sel [2, 3, 4] (by decide) rfl) ?_
          have HS111 := HH110.sel [2, 3, 4] (by decide) rfl
          refine dr_one (i := 5) (ls' := #[true, true, true, true, true, true]) rfl (by kernel_rfl) rfl fun K_112 hK113 => ?_
          refine st_store (vs := [.slice A33 ((a5 ++ [a3]).length) c34]) 5 HE109 HH110 tv_50 rfl rfl rfl rfl rfl rfl (by simp [Value.oneCell']) (wt0 rfl) fun w' HH114 => hK113 _ _ (by exact HH114.sel [2, 3, 4] (by decide) rfl) ?_
          have HS115 := HH114.sel [2, 3, 4] (by decide) rfl
          refine dr_done (by kernel_rfl) ?_
          clear HH36 HS37 a_58 HE59 HE63 HH60 a_62 HE91 HS61 K_64 hK65 a_93 HE94 K_96 hK97 a_98 HE99 HH92 HS95 K_100 hK101 a_102 HE103 HH104 HS105 K_106 hK107 HH110 HS111 hK113 K_112
          refine nrm ?_
          refine wp_ret ?_
          refine (thn_ret ?_)
          refine ret0 HE109 rfl ?_
          have hF : (fillF a4 a2 a1.1.toNat a1.2.1.toNat (f + 1) a0 a3 a5) = (a3, (a5 ++ [a3])) := by
            first | (rw [fillF_top (by omega), if_pos (by assumption)]; done) | (rw [fillF_top (by omega), if_neg (by assumption)]; done) | (rw [fillF_go (by omega), show a1.2.1.toNat = v from by omega])
          exact ⟨_, _, _, _, rfl, by rw [hF]; exact HH114.sel [3, 4, 5, 0] (by decide) rfl⟩
        · refine st_lit (m := 1) (cs := [.slice Ar31_0 (a3.length) cr31_0]) (e := 37) HE94 HH92 (run_lit ts_50 HE94 (vs := [.slice Ar31_0 (a3.length) cr31_0]) rfl rfl (by simp [Value.cells]) rfl (by decide)) (wt0 rfl) rfl rfl fun q36 a_116 w' HE117 HH118 => hK97 _ _ (by exact HH118.sel [2, 3, 4] (by decide) rfl) ?_
          have HS119 := HH118.sel [2, 3, 4] (by decide) rfl
          refine dr_one (i := 0) (ls' := #[true, true, true, true, false, false]) rfl (by kernel_rfl) rfl fun K_120 hK121 => ?_
          refine st_x HE117 HH118 (wt0 rfl) (x_load1 tv_50 rfl (c_blk 5 rfl rfl)) rfl rfl fun a_122 HE123 => hK121 _ _ HS119 ?_
          refine dr_one (i := 4) (ls' := #[true, true, true, true, true, false]) rfl (by kernel_rfl) rfl fun K_124 hK125 => ?_
          refine st_app1 HE123 HH118 ts_50 [6, 1, 0, 2, 3, 4, 5] (by decide) rfl rfl rfl (by simp [Value.oneCell']) (by unfold maxLen; first | omega | (simp; done) | (simp; omega)) (by first | omega | (simp; done) | (simp; omega)) (wt0 rfl) rfl fun A37 c38 S39 a_126 w' HE127 HH128 => hK125 _ _ (by exact HH128.sel [2, 3, 4] (by decide) rfl) ?_
          have HS129 := HH128.sel [2, 3, 4] (by decide) rfl
          refine dr_one (i := 5) (ls' := #[true, true, true, true, true, true]) rfl (by kernel_rfl) rfl fun K_130 hK131 => ?_
          refine st_store (vs := [.slice A37 ((a5 ++ [a3]).length) c38]) 5 HE127 HH128 tv_50 rfl rfl rfl rfl rfl rfl (by simp [Value.oneCell']) (wt0 rfl) fun w' HH132 => hK131 _ _ (by exact HH132.sel [2, 3, 4] (by decide) rfl) ?_
          have HS133 := HH132.sel [2, 3, 4] (by decide) rfl
          refine dr_done (by kernel_rfl) ?_
          clear HH36 HS37 a_58 HE59 HE63 HH60 a_62 HE91 HS61 K_64 hK65 a_93 HE94 HH92 HS95 K_96 hK97 a_116 HE117 K_120 hK121 a_122 HE123 HH118 HS119 K_124 hK125 HH128 HS129 hK131 K_130
          refine nrm ?_
          refine wp_ret ?_
          refine (thn_ret ?_)
          refine ret0 HE127 rfl ?_
          have hF : (fillF a4 a2 a1.1.toNat a1.2.1.toNat (f + 1) a0 a3 a5) = (a3, (a5 ++ [a3])) := by
            first | (rw [fillF_top (by omega), if_pos (by assumption)]; done) | (rw [fillF_top (by omega), if_neg (by assumption)]; done) | (rw [fillF_go (by omega), show a1.2.1.toNat = v from by omega])
          exact ⟨_, _, _, _, rfl, by rw [hF]; exact HH132.sel [3, 4, 5, 0] (by decide) rfl⟩
    · refine wp_skip ?_
      refine nrm ?_
      refine wp_ret ?_
      refine (thn_ret ?_)
      refine ret0 HE59 rfl ?_
      have hF : (fillF a4 a2 a1.1.toNat a1.2.1.toNat (f + 1) a0 a3 a5) = (a3, a5) := by
        first | (rw [fillF_top (by omega), if_pos (by assumption)]; done) | (rw [fillF_top (by omega), if_neg (by assumption)]; done) | (rw [fillF_go (by omega), show a1.2.1.toNat = v from by omega])
      exact ⟨_, _, _, _, rfl, by rw [hF]; exact HH36.sel [1, 2, 3, 4] (by decide) rfl⟩
  · refine wp_skip ?_
    refine nrm ?_
    refine wp_seq ?_
    refine rg ?_
    refine pl_x HE11 HH1 (wt0 rfl) (x_load1 tv_37 rfl (c_blk 0 rfl rfl)) rfl rfl fun a_134 HE135 => ?_
    refine pl_x HE135 HH1 (wt0 rfl) (x_move rfl) rfl rfl fun a_136 HE137 => ?_
    have ke40 : a0 < n3 := by omega
    obtain ⟨be40, fe40, rfl⟩ := el_own HH1 (i := 1) rfl (k := a0) (by omega)
    refine pl_x HE137 HH1 (wt0 rfl) (x_indexAddr ts_37 rfl rfl rfl rfl ke40) rfl rfl fun a_138 HE139 => ?_
    refine pl fun K_140 hK141 => ?_
    refine st_storeI 1 HE139 HH1 tv_2 rfl rfl rfl (by first | exact ke40 | (simp only [List.length_set]; exact ke40) | omega | (simp only [List.length_set]; omega) | (simp; omega)) (by exact ⟨by omega, by omega⟩) (wt0 rfl) fun w' HH142 => hK141 _ _ ?_
    refine wpList_nil ?_
    clear a_10 HE11 a_134 HE135 a_136 HE137 HH1 hK141 K_140
    refine nrm ?_
    refine wp_block ?_
    refine lp (fun m a w' => ∃ (v : Nat) (A_5_0 : Option Addr) (c_5_0 : Nat) (S_5_0 : Nat → Prop) (S_3_0 : Nat → Prop), m = a1.2.1.toNat - v ∧ Env 54 [(0, .int .i64 ((a0 : Int))), (1, .pointer (some ⟨p1, 0, none⟩)), (3, .pointer (some ⟨p3, 0, none⟩)), (6, .pointer (some ⟨p6, 0, none⟩)), (5, .pointer (some ⟨p5, 0, none⟩))] a ∧ Held M w [rVec (eSl eInt) 37 S_5_0 A_5_0 c_5_0 ((fillN a4 a2 a1.1.toNat a1.2.1.toNat f a0 a3 a5 v).2), rSo eInt S_3_0 (some ⟨be40, fe40, none⟩) c3 ((fillN a4 a2 a1.1.toNat a1.2.1.toNat f a0 a3 a5 v).1.set a0 ((v : Nat) : Int)), rBlk p5 50 [.slice A_5_0 (List.length ((fillN a4 a2 a1.1.toNat a1.2.1.toNat f a0 a3 a5 v).2)) c_5_0], rBlk p3 37 [.slice (some ⟨be40, fe40, none⟩) (n3) c3]] w' ∧ (v ≤ a1.2.1.toNat)) (a1.2.1.toNat - (0)) ?_ ?_
    · have E41 : (fillN a4 a2 a1.1.toNat a1.2.1.toNat f a0 a3 a5 0).2 = a5 := by
        rfl
      have E42 : ((fillN a4 a2 a1.1.toNat a1.2.1.toNat f a0 a3 a5 0).1.set a0 ((0 : Nat) : Int)) = (a3.set a0 0) := by
        rfl
      exact ⟨0, A5, c5, S5, S3, rfl, HE139.sub ⟨rfl, rfl, rfl, rfl, rfl, trivial⟩, ((HH142.sel [3, 1, 2, 0] (by decide) rfl).to (by first | rfl | (rw [E41, E42]; done) | (rw [E41, E42]; rfl) | (simp only [E41, E42]; done) | (simp only [E41, E42]; rfl) | (rw [E41, E42]; simp only [List.length_set]; done))), (by first | omega | assumption | (simp; done) | simp_all)⟩
    · rintro m a_143 w' ⟨v, A_5_0, c_5_0, S_5_0, S_3_0, rfl, HE144, HH145, p43_0⟩
      have hfl := fillN_len a4 a2 a1.1.toNat a1.2.1.toNat f a0 a3 a5 v
      have hsl : ((fillN a4 a2 a1.1.toNat a1.2.1.toNat f a0 a3 a5 v).1.set a0 ((v : Nat) : Int)).length = a3.length := by rw [List.length_set, hfl]
      refine wp_seq ?_
      refine wp_seq ?_
      refine dr_start (Held M w [rVec (eSl eInt) 37 S_5_0 A_5_0 c_5_0 ((fillN a4 a2 a1.1.toNat a1.2.1.toNat f a0 a3 a5 v).2), rSo eInt S_3_0 (some ⟨be40, fe40, none⟩) c3 ((fillN a4 a2 a1.1.toNat a1.2.1.toNat f a0 a3 a5 v).1.set a0 ((v : Nat) : Int)), rBlk p5 50 [.slice A_5_0 ((List.length ((fillN a4 a2 a1.1.toNat a1.2.1.toNat f a0 a3 a5 v).2))) c_5_0], rBlk p3 37 [.slice (some ⟨be40, fe40, none⟩) (n3) c3]]) 7 #[false, false, false, false, false, false, false] hmix rfl rfl HH145 (fun _ h => h.sel [0, 1, 2, 3] (by decide) rfl) fun w' HH146 => ?_
      have HS147 := HH146
      refine dr_take (i := 0) (ls' := #[true, false, false, false, false, false, false]) HE144 HS147 rfl (by kernel_rfl) (by kernel_rfl) (by kernel_rfl) (fun _ _ _ h => h) rfl (wt0 rfl) (x_load1 tv_37 rfl (c_blk 3 rfl rfl)) rfl rfl fun a_148 HE149 => ?_
      refine dr_take (i := 1) (ls' := #[true, true, false, false, false, false, false]) HE149 HS147 rfl (by kernel_rfl) (by kernel_rfl) (by kernel_rfl) (fun _ _ _ h => h) rfl (wt0 rfl) (x_move rfl) rfl rfl fun a_150 HE151 => ?_
      have ke44 : a0 < n3 := by omega
      refine dr_take (i := 2) (ls' := #[true, true, true, false, false, false, false]) HE151 HS147 rfl (by kernel_rfl) (by kernel_rfl) (by kernel_rfl) (fun _ _ _ h => h) rfl (wt0 rfl) (x_indexAddr ts_37 rfl rfl rfl rfl ke44) rfl rfl fun a_152 HE153 => ?_
      refine dr_take (i := 3) (ls' := #[true, true, true, true, false, false, false]) HE153 HS147 rfl (by kernel_rfl) (by kernel_rfl) (by kernel_rfl) (fun _ _ _ h => h) rfl (wt0 rfl) (x_load1 tv_2 rfl (c_ownV (y := ((v : Nat) : Int)) 1 rfl (by first | exact ke44 | (simp only [List.length_set]; exact ke44) | omega | (simp only [List.length_set]; omega) | (simp; omega)) (by simp))) rfl rfl fun a_154 HE155 => ?_
      refine dr_take (i := 4) (ls' := #[true, true, true, true, true, false, false]) HE155 HS147 rfl (by kernel_rfl) (by kernel_rfl) (by kernel_rfl) (fun _ _ _ h => h) rfl (wt0 rfl) (x_fieldAddr fa_55_1 rfl) rfl rfl fun a_156 HE157 => ?_
      refine dr_take (i := 5) (ls' := #[true, true, true, true, true, true, false]) HE157 HS147 rfl (by kernel_rfl) (by kernel_rfl) (by kernel_rfl) (fun _ _ _ h => h) rfl (wt0 rfl) (x_load1 tv_2 rfl (c_oldM Nhq1 (hq1 1 _ rfl))) rfl rfl fun a_158 HE159 => ?_
      refine dr_take (i := 6) (ls' := #[true, true, true, true, true, true, true]) HE159 HS147 rfl (by kernel_rfl) (by kernel_rfl) (by kernel_rfl) (fun _ _ _ h => h) rfl (wt0 rfl) (x_lss rfl rfl) rfl rfl fun a_160 HE161 => ?_
      refine dr_done (by kernel_rfl) ?_
      clear a_138 HE139 HH142 HH145 a_143 HE144 a_148 HE149 a_150 HE151 a_152 HE153 a_154 HE155 a_156 HE157 a_158 HE159
      refine nrm ?_
      refine cnd_d HE161 rfl (fun hc45 => ?_) (fun hc45 => ?_)
      · refine wp_skip ?_
        refine nrm ?_
        refine wp_seq ?_
        refine wp_block ?_
        refine rg ?_
        refine pl_x HE161 HH146 (wt0 rfl) (x_load1 tv_121 rfl (c_oldM Nhq6 (hq6 0 _ rfl))) rfl rfl fun a_162 HE163 => ?_
        refine pl_x HE163 HH146 (wt0 rfl) (x_move rfl) rfl rfl fun a_164 HE165 => ?_
        refine pl_x HE165 HH146 (wt0 rfl) (x_add rfl rfl (by exact ⟨by omega, by omega⟩)) rfl rfl fun a_166 HE167 => ?_
        refine pl fun K_168 hK169 => ?_
        have HH170 := HH146.sel [3, 1, 2, 0] (by decide) rfl
        have HH171 : Held M w ([rBlk p3 37 [.slice (some ⟨be40, fe40, none⟩) (n3) c3], rSo eInt S_3_0 (some ⟨be40, fe40, none⟩) c3 ((fillN a4 a2 a1.1.toNat a1.2.1.toNat f a0 a3 a5 v).1.set a0 ((v : Nat) : Int)), rBlk p5 50 [.slice A_5_0 ((List.length ((fillN a4 a2 a1.1.toNat a1.2.1.toNat f a0 a3 a5 v).2))) c_5_0], rVec (eSl eInt) 37 S_5_0 A_5_0 c_5_0 ((fillN a4 a2 a1.1.toNat a1.2.1.toNat f a0 a3 a5 v).2)] ++ []) _ := HH170
        have HE172 := HE167.castI (t := 52) (y := ((a0 + 1) : Int)) rfl (by omega)
        refine st_callD HE172 (wt0 rfl) rfl rfl rfl en_104 rfl rfl (ih (Foot [rBlk p3 37 [.slice (some ⟨be40, fe40, none⟩) (n3) c3], rSo eInt S_3_0 (some ⟨be40, fe40, none⟩) c3 ((fillN a4 a2 a1.1.toNat a1.2.1.toNat f a0 a3 a5 v).1.set a0 ((v : Nat) : Int)), rBlk p5 50 [.slice A_5_0 ((List.length ((fillN a4 a2 a1.1.toNat a1.2.1.toNat f a0 a3 a5 v).2))) c_5_0], rVec (eSl eInt) 37 S_5_0 A_5_0 c_5_0 ((fillN a4 a2 a1.1.toNat a1.2.1.toNat f a0 a3 a5 v).2)]) (a0 + 1) _ [.int .i64 (a1.1), .int .i64 (a1.2.1), .int .i64 (a1.2.2.1), .slice Az1_3 (a1.2.2.2.length) cz1_3] a1 _ [.int .i64 (a2)] a2 _ _ _ _ ((fillN a4 a2 a1.1.toNat a1.2.1.toNat f a0 a3 a5 v).1.set a0 ((v : Nat) : Int)) _ _ _ a4 _ _ _ ((fillN a4 a2 a1.1.toNat a1.2.1.toNat f a0 a3 a5 v).2) _ _ _ HH171.focus (HH171.lendOM H1) (c_oldNM Nhq1 hq1 _ HH171) (HH171.nfOM Nhq1 (hq1 0 _ rfl)) (HH171.lendOM H2) (c_oldNM Nhq2 hq2 _ HH171) (HH171.nfOM Nhq2 (hq2 0 _ rfl)) (by first | rfl | omega) (c_oldNM Nhq4 hq4 _ HH171) (HH171.nfOM Nhq4 (hq4 0 _ rfl)) (HH171.mapOM h4 Ng4) (HH171.nfOMM h4 Ng4) (c_oldNM Nhq6 hq6 _ HH171) (HH171.nfOM Nhq6 (hq6 0 _ rfl)) (by first | omega | (simp; done)) (by first | omega | (simp; done)) (by omega) (by omega) (by omega) (by first | exact fillN_room (by omega) (by omega) (by omega) s6 | assumption)) fun e w' hr => ?_
        obtain ⟨Sr46_0, Ar46_1, cr46_1, Sr46_1, rfl, hbr46⟩ := hr
        have HH173 := HH171.back hbr46
        clear hbr46
        have HH174 : Held M w ([rBlk p3 37 [.slice (some ⟨be40, fe40, none⟩) (n3) c3], rSo eInt Sr46_0 (some ⟨be40, fe40, none⟩) c3 ((fillF a4 a2 a1.1.toNat a1.2.1.toNat f (a0 + 1) ((fillN a4 a2 a1.1.toNat a1.2.1.toNat f a0 a3 a5 v).1.set a0 ((v : Nat) : Int)) ((fillN a4 a2 a1.1.toNat a1.2.1.toNat f a0 a3 a5 v).2)).1), rBlk p5 50 [.slice Ar46_1 ((List.length ((fillF a4 a2 a1.1.toNat a1.2.1.toNat f (a0 + 1) ((fillN a4 a2 a1.1.toNat a1.2.1.toNat f a0 a3 a5 v).1.set a0 ((v : Nat) : Int)) ((fillN a4 a2 a1.1.toNat a1.2.1.toNat f a0 a3 a5 v).2)).2))) cr46_1], rVec (eSl eInt) 37 Sr46_1 Ar46_1 cr46_1 ((fillF a4 a2 a1.1.toNat a1.2.1.toNat f (a0 + 1) ((fillN a4 a2 a1.1.toNat a1.2.1.toNat f a0 a3 a5 v).1.set a0 ((v : Nat) : Int)) ((fillN a4 a2 a1.1.toNat a1.2.1.toNat f a0 a3 a5 v).2)).2)] ++ []) _ := HH173
        have hAr46_0 := fillF_len a4 a2 a1.1.toNat a1.2.1.toNat f (a0 + 1) ((fillN a4 a2 a1.1.toNat a1.2.1.toNat f a0 a3 a5 v).1.set a0 ((v : Nat) : Int)) ((fillN a4 a2 a1.1.toNat a1.2.1.toNat f a0 a3 a5 v).2)
        refine ⟨_, rfl, fun a_175 HE176 => hK169 _ _ ?_⟩
        refine wpList_nil ?_
        clear a_160 HE161 a_162 HE163 a_164 HE165 HH146 HH170 HE167 HH171 HH173 a_166 HE172 hK169 K_168
        refine blk_n ?_
        refine nrm ?_
        refine rg ?_
        refine pl_x HE176 HH174 (wt0 rfl) (x_load1 tv_37 rfl (c_blk 0 rfl rfl)) rfl rfl fun a_177 HE178 => ?_
        refine pl_x HE178 HH174 (wt0 rfl) (x_move rfl) rfl rfl fun a_179 HE180 => ?_
        have ke47 : a0 < n3 := by omega
        refine pl_x HE180 HH174 (wt0 rfl) (x_indexAddr ts_37 rfl rfl rfl rfl ke47) rfl rfl fun a_181 HE182 => ?_
        obtain ⟨y48, xy48⟩ : ∃ y_, y_ = ((fillF a4 a2 a1.1.toNat a1.2.1.toNat f (a0 + 1) ((fillN a4 a2 a1.1.toNat a1.2.1.toNat f a0 a3 a5 v).1.set a0 ((v : Nat) : Int)) ((fillN a4 a2 a1.1.toNat a1.2.1.toNat f a0 a3 a5 v).2)).1)[a0]'(by first | exact ke47 | (simp only [List.length_set]; exact ke47) | omega | (simp only [List.length_set]; omega) | (simp; omega)) := ⟨_, rfl⟩
        have iy48 : I64 y48 := by rw [xy48]; exact i_ownI HH174 1 rfl _
        have jy48 := iy48; unfold I64 at jy48
        have hyv : y48 = (v : Int) := by have q := fillN_at (ks := a4) (st := a2) (T := a1.1.toNat) (S := a1.2.1.toNat) (f := f) (k := a0) (b := a3) (l := a5) (v := v) (by omega); rw [List.getElem?_eq_getElem (by rw [fillF_len, List.length_set, fillN_len]; omega), ← xy48] at q; exact Option.some.inj q
        refine pl_x HE182 HH174 (wt0 rfl) (x_load1 tv_2 rfl (c_ownV 1 rfl (by first | exact ke47 | (simp only [List.length_set]; exact ke47) | omega | (simp only [List.length_set]; omega) | (simp; omega)) xy48.symm)) rfl rfl fun a_183 HE184 => ?_
        refine pl_x HE184 HH174 (wt0 rfl) (x_add rfl rfl (by exact ⟨by omega, by omega⟩)) rfl rfl fun a_185 HE186 => ?_
        have ke49 : a0 < n3 := by omega
        refine pl_x HE186 HH174 (wt0 rfl) (x_indexAddr ts_37 rfl rfl rfl rfl ke49) rfl rfl fun a_187 HE188 => ?_
        refine pl fun K_189 hK190 => ?_
        refine st_storeI 1 HE188 HH174 tv_2 rfl rfl rfl (by first | exact ke49 | (simp only [List.length_set]; exact ke49) | omega | (simp only [List.length_set]; omega) | (simp; omega)) (by exact ⟨by omega, by omega⟩) (wt0 rfl) fun w' HH191 => hK190 _ _ ?_
        refine wpList_nil ?_
        clear a_175 HE176 a_177 HE178 a_179 HE180 a_181 HE182 a_183 HE184 a_185 HE186 HH174 hK190 K_189
        have E50 : (fillN a4 a2 a1.1.toNat a1.2.1.toNat f a0 a3 a5 (v + 1)).2 = (fillF a4 a2 a1.1.toNat a1.2.1.toNat f (a0 + 1) ((fillN a4 a2 a1.1.toNat a1.2.1.toNat f a0 a3 a5 v).1.set a0 ((v : Nat) : Int)) ((fillN a4 a2 a1.1.toNat a1.2.1.toNat f a0 a3 a5 v).2)).2 := by
          rw [fillN_succ]
        have E51 : ((fillN a4 a2 a1.1.toNat a1.2.1.toNat f a0 a3 a5 (v + 1)).1.set a0 (((v + 1) : Nat) : Int)) = (((fillF a4 a2 a1.1.toNat a1.2.1.toNat f (a0 + 1) ((fillN a4 a2 a1.1.toNat a1.2.1.toNat f a0 a3 a5 v).1.set a0 ((v : Nat) : Int)) ((fillN a4 a2 a1.1.toNat a1.2.1.toNat f a0 a3 a5 v).2)).1).set a0 (y48 + 1)) := by
          first | (rw [fillN_succ, hyv]; done) | (rw [fillN_succ, hyv]; rfl)
        exact nrm ⟨a1.2.1.toNat - (v + 1), (by omega), v + 1, Ar46_1, cr46_1, Sr46_1, Sr46_0, rfl, HE188.sub ⟨rfl, rfl, rfl, rfl, rfl, trivial⟩, ((HH191.sel [3, 1, 2, 0] (by decide) rfl).to (by first | rfl | (rw [E50, E51]; done) | (rw [E50, E51]; rfl) | (simp only [E50, E51]; done) | (simp only [E50, E51]; rfl) | (rw [E50, E51]; simp only [List.length_set]; done))), (by first | omega | assumption | (simp; done) | simp_all)⟩
      · refine wp_exit ?_
        refine (thn_exit (thn_exit (blk_hit ?_)))
        refine fin0 HE161 rfl ?_
        have hF : (fillF a4 a2 a1.1.toNat a1.2.1.toNat (f + 1) a0 a3 a5) = (((fillN a4 a2 a1.1.toNat a1.2.1.toNat f a0 a3 a5 v).1.set a0 ((v : Nat) : Int)), (fillN a4 a2 a1.1.toNat a1.2.1.toNat f a0 a3 a5 v).2) := by
          first | (rw [fillF_top (by omega), if_pos (by assumption)]; done) | (rw [fillF_top (by omega), if_neg (by assumption)]; done) | (rw [fillF_go (by omega), show a1.2.1.toNat = v from by omega])
        exact ⟨_, _, _, _, rfl, by rw [hF]; exact HH146.sel [3, 1, 2, 0] (by decide) rfl⟩

theorem impl_fill1_all : ∀ f : Nat, ∀ (M : Nat → Prop) (a0 : Nat) (p1 : Nat) (es1 : List Value) (a1 : tMulti) (p2 : Nat) (es2 : List Value) (a2 : Int) (p3 : Nat) (A3 : Option Addr) (c3 n3 : Nat) (a3 : (List Int)) (S3 : Nat → Prop) (p4 g4 : Nat) (a4 : List tKey) (p5 : Nat) (A5 : Option Addr) (c5 : Nat) (a5 : (List (List Int))) (S5 : Nat → Prop) (p6 : Nat) (w : World) (HM : Held M w [rBlk p3 37 [.slice A3 n3 c3], rSo eInt S3 A3 c3 a3, rBlk p5 50 [.slice A5 a5.length c5], rVec (eSl eInt) 37 S5 A5 c5 a5] w) (h1 : eMulti.R w (Out M w) es1 a1) (hq1 : ∀ j v, es1[j]? = some v → w.cell? ⟨p1, 0 + j, none⟩ = some v) (Nhq1 : ¬ M p1) (h2 : eInt.R w (Out M w) es2 a2) (hq2 : ∀ j v, es2[j]? = some v → w.cell? ⟨p2, 0 + j, none⟩ = some v) (Nhq2 : ¬ M p2) (hn3 : a3.length = n3) (hq4 : ∀ j v, ([.map (some g4)] : List Value)[j]? = some v → w.cell? ⟨p4, 0 + j, none⟩ = some v) (Nhq4 : ¬ M p4) (h4 : MapK w g4 a4) (Ng4 : ¬ M g4) (hq6 : ∀ j v, ([.func (.func 104) #[] #[.pointer (some ⟨p1, 0, none⟩), .pointer (some ⟨p2, 0, none⟩), .pointer (some ⟨p3, 0, none⟩), .pointer (some ⟨p4, 0, none⟩), .pointer (some ⟨p5, 0, none⟩), .pointer (some ⟨p6, 0, none⟩)]] : List Value)[j]? = some v → w.cell? ⟨p6, 0 + j, none⟩ = some v) (Nhq6 : ¬ M p6) (s1 : a3.length = a1.1.toNat) (s2 : a0 ≤ a1.1.toNat) (s3 : a1.1.toNat < f + a0) (s4 : 1 ≤ a1.1 ∧ a1.1 ≤ 3) (s5 : 1 ≤ a1.2.1 ∧ a1.2.1 ≤ 100) (s6 : a5.length + a1.2.1.toNat ^ (a1.1.toNat - a0) ≤ 1000000),
    Calls Try.prog 104 #[.int .i64 (a0 : Int), .pointer (some ⟨p1, 0, none⟩), .pointer (some ⟨p2, 0, none⟩), .pointer (some ⟨p3, 0, none⟩), .pointer (some ⟨p4, 0, none⟩), .pointer (some ⟨p5, 0, none⟩), .pointer (some ⟨p6, 0, none⟩)] w fun e w' => ∃ (S3' : Nat → Prop) (A5' : Option Addr) (c5' : Nat) (S5' : Nat → Prop), e = .returned (.tuple #[]) ∧ Held M w [rBlk p3 37 [.slice A3 n3 c3], rSo eInt S3' A3 c3 (fillF a4 a2 a1.1.toNat a1.2.1.toNat (f) a0 a3 a5).1, rBlk p5 50 [.slice A5' (List.length ((fillF a4 a2 a1.1.toNat a1.2.1.toNat (f) a0 a3 a5).2)) c5'], rVec (eSl eInt) 37 S5' A5' c5' ((fillF a4 a2 a1.1.toNat a1.2.1.toNat (f) a0 a3 a5).2)] w' := by
  intro f
  induction f with
  | zero => intros; omega
  | succ n ih => intro M a0 p1 es1 a1 p2 es2 a2 p3 A3 c3 n3 a3 S3 p4 g4 a4 p5 A5 c5 a5 S5 p6 w HM h1 hq1 Nhq1 h2 hq2 Nhq2 hn3 hq4 Nhq4 h4 Ng4 hq6 Nhq6 s1 s2 s3 s4 s5 s6; exact impl_fill1 M a0 p1 es1 a1 p2 es2 a2 p3 A3 c3 n3 a3 S3 p4 g4 a4 p5 A5 c5 a5 S5 p6 n ih w HM h1 hq1 Nhq1 h2 hq2 Nhq2 hn3 hq4 Nhq4 h4 Ng4 hq6 Nhq6 s1 s2 s3 s4 s5 s6

theorem impl_fillT (M : Nat → Prop) (a0 : Nat) (p1 : Nat) (es1 : List Value) (a1 : tMulti) (p2 : Nat) (es2 : List Value) (a2 : Int) (p3 : Nat) (A3 : Option Addr) (c3 n3 : Nat) (a3 : (List Int)) (S3 : Nat → Prop) (p4 g4 : Nat) (a4 : List tKey) (p5 : Nat) (A5 : Option Addr) (c5 : Nat) (a5 : (List (List Int))) (S5 : Nat → Prop) (p6 : Nat) (w : World) (HM : Held M w [rBlk p3 37 [.slice A3 n3 c3], rSo eInt S3 A3 c3 a3, rBlk p5 50 [.slice A5 a5.length c5], rVec (eSl eInt) 37 S5 A5 c5 a5] w) (h1 : eMulti.R w (Out M w) es1 a1) (hq1 : ∀ j v, es1[j]? = some v → w.cell? ⟨p1, 0 + j, none⟩ = some v) (Nhq1 : ¬ M p1) (h2 : eInt.R w (Out M w) es2 a2) (hq2 : ∀ j v, es2[j]? = some v → w.cell? ⟨p2, 0 + j, none⟩ = some v) (Nhq2 : ¬ M p2) (hn3 : a3.length = n3) (hq4 : ∀ j v, ([.map (some g4)] : List Value)[j]? = some v → w.cell? ⟨p4, 0 + j, none⟩ = some v) (Nhq4 : ¬ M p4) (h4 : MapK w g4 a4) (Ng4 : ¬ M g4) (hq6 : ∀ j v, ([.func (.func 104) #[] #[.pointer (some ⟨p1, 0, none⟩), .pointer (some ⟨p2, 0, none⟩), .pointer (some ⟨p3, 0, none⟩), .pointer (some ⟨p4, 0, none⟩), .pointer (some ⟨p5, 0, none⟩), .pointer (some ⟨p6, 0, none⟩)]] : List Value)[j]? = some v → w.cell? ⟨p6, 0 + j, none⟩ = some v) (Nhq6 : ¬ M p6) (s1 : a3.length = a1.1.toNat) (s2 : a0 ≤ a1.1.toNat) (s3 : a1.1.toNat < (a1.1.toNat + 1) + a0) (s4 : 1 ≤ a1.1 ∧ a1.1 ≤ 3) (s5 : 1 ≤ a1.2.1 ∧ a1.2.1 ≤ 100) (s6 : a5.length + a1.2.1.toNat ^ (a1.1.toNat - a0) ≤ 1000000) :
    Calls Try.prog 104 #[.int .i64 (a0 : Int), .pointer (some ⟨p1, 0, none⟩), .pointer (some ⟨p2, 0, none⟩), .pointer (some ⟨p3, 0, none⟩), .pointer (some ⟨p4, 0, none⟩), .pointer (some ⟨p5, 0, none⟩), .pointer (some ⟨p6, 0, none⟩)] w fun e w' => ∃ (S3' : Nat → Prop) (A5' : Option Addr) (c5' : Nat) (S5' : Nat → Prop), e = .returned (.tuple #[]) ∧ Held M w [rBlk p3 37 [.slice A3 n3 c3], rSo eInt S3' A3 c3 (fillF a4 a2 a1.1.toNat a1.2.1.toNat ((a1.1.toNat + 1)) a0 a3 a5).1, rBlk p5 50 [.slice A5' (List.length ((fillF a4 a2 a1.1.toNat a1.2.1.toNat ((a1.1.toNat + 1)) a0 a3 a5).2)) c5'], rVec (eSl eInt) 37 S5' A5' c5' ((fillF a4 a2 a1.1.toNat a1.2.1.toNat ((a1.1.toNat + 1)) a0 a3 a5).2)] w' := impl_fill1_all (a1.1.toNat + 1) M a0 p1 es1 a1 p2 es2 a2 p3 A3 c3 n3 a3 S3 p4 g4 a4 p5 A5 c5 a5 S5 p6 w HM h1 hq1 Nhq1 h2 hq2 Nhq2 hn3 hq4 Nhq4 h4 Ng4 hq6 Nhq6 s1 s2 s3 s4 s5 s6

set_option maxRecDepth 100000 in
set_option maxHeartbeats 4000000 in
theorem impl_haltingReads (es0 : List Value) (a0 : tMulti) (a1 : Int) (w : World) (h0 : eMulti.R w (Old w) es0 a0) (s0 : ∀ r ∈ a0.2.2.2, r.2.1.length ≤ 3) (s1 : (1 ≤ a0.1 ∧ a0.1 ≤ 3) ∧ (1 ≤ a0.2.1 ∧ a0.2.1 ≤ 100) ∧ a0.2.2.2.length ≤ 1000) (s2 : 0 ≤ a1 ∧ a1 ≤ 1000) :
    Calls Try.prog 66 #[.agg es0.toArray, .int .i64 a1] w fun e w' => ∃ (A0' : Option Addr) (c0' : Nat), e = .returned (.slice A0' (hReads a0 a1).length c0') ∧ So (eSl eInt) w' (Fr w w') A0' c0' (hReads a0 a1) ∧ Below w.heap.size w w' := by
  have H0 := h0
  obtain ⟨Az0_3, cz0_3, rfl, gz0_0, gz0_1, gz0_2, gz0_3⟩ := shape_Multi h0
  have jz0_0 := gz0_0; unfold I64 at jz0_0
  have jz0_1 := gz0_1; unfold I64 at jz0_1
  have jz0_2 := gz0_2; unfold I64 at jz0_2
  have lz0_3 := gz0_3.len
  have hroom : ([] : List (List Int)).length + a0.2.1.toNat ^ (a0.1.toNat - 0) ≤ 1000000 := pow_room (by omega) (by omega)
  have HH1 := Held.start Nob w
  refine enter (n := 19) Try.func66 rfl rfl rfl fun a_2 HE3 => ?_
  refine wp_seq ?_
  refine rg ?_
  refine pl fun K_4 hK5 => ?_
  refine st_box (cs := [.int .i64 (a0.1), .int .i64 (a0.2.1), .int .i64 (a0.2.2.1), .slice Az0_3 (a0.2.2.2.length) cz0_3]) HE3 HH1 rfl rfl (wt0 rfl) rfl fun q21 a_6 w' HE7 HH8 => hK5 _ _ ?_
  refine pl fun K_9 hK10 => ?_
  refine st_box (cs := [.int .i64 (a1)]) HE7 HH8 rfl rfl (wt0 rfl) rfl fun q22 a_11 w' HE12 HH13 => hK10 _ _ ?_
  refine pl_x HE12 HH13 (wt0 rfl) (x_assign rfl) rfl rfl fun a_14 HE15 => ?_
  refine wpList_nil ?_
  clear a_2 HE3 HH1 K_4 hK5 a_6 HE7 HH8 a_11 HE12 hK10 K_9
  refine nrm ?_
  refine wp_seq ?_
  refine rg ?_
  refine pl_x HE15 HH13 (wt0 rfl) (x_loadN (cs := [.int .i64 (a0.1), .int .i64 (a0.2.1), .int .i64 (a0.2.2.1), .slice Az0_3 (a0.2.2.2.length) cz0_3]) tv_55 rfl rfl (c_blkN 1 rfl)) rfl rfl fun a_16 HE17 => ?_
  refine pl fun K_18 hK19 => ?_
  refine st_call HE17 (wt0 rfl) rfl rfl rfl en_103 rfl rfl (impl_multiRules [.int .i64 (a0.1), .int .i64 (a0.2.1), .int .i64 (a0.2.2.1), .slice Az0_3 (a0.2.2.2.length) cz0_3] a0 _ (HH13.oldR H0) (by assumption) (by omega)) fun e w' hr => ?_
  obtain ⟨gr23_0, rfl, hbr23⟩ := hr
  have HH20 := HH13.app hbr23
  clear hbr23
  have HH21 : Held Nob w ([rMap gr23_0 (a0.2.2.2.map ruleK), rBlk q22 2 [.int .i64 (a1)], rBlk q21 55 [.int .i64 (a0.1), .int .i64 (a0.2.1), .int .i64 (a0.2.2.1), .slice Az0_3 (a0.2.2.2.length) cz0_3]]) _ := HH20
  refine ⟨_, rfl, fun a_22 HE23 => hK19 _ _ ?_⟩
  refine pl fun K_24 hK25 => ?_
  refine st_lit (m := 0) (cs := []) (e := 37) HE23 HH21 (run_lit ts_50 HE23 (vs := []) rfl rfl (by simp [Value.cells]) rfl (by decide)) (wt0 rfl) rfl rfl fun q24 a_26 w' HE27 HH28 => hK25 _ _ ?_
  refine pl fun K_29 hK30 => ?_
  refine st_alloc HE27 HH28 tv_133 (wt0 rfl) rfl fun q25 a_31 w' HE32 HH33 => hK30 _ _ ?_
  refine pl fun K_34 hK35 => ?_
  refine st_alloc HE32 HH33 tv_50 (wt0 rfl) rfl fun q26 a_36 w' HE37 HH38 => hK35 _ _ ?_
  refine pl fun K_39 hK40 => ?_
  refine st_store (vs := [.map (some gr23_0)]) 1 HE37 HH38 tv_133 rfl rfl rfl rfl rfl rfl (by simp [Value.oneCell']) (wt0 rfl) fun w' HH41 => hK40 _ _ ?_
  refine pl fun K_42 hK43 => ?_
  refine st_store (vs := [.slice (some ⟨q24, 0, none⟩) (0) 0]) 0 HE37 HH41 tv_50 rfl rfl rfl rfl rfl rfl (by simp [Value.oneCell']) (wt0 rfl) fun w' HH44 => hK43 _ _ ?_
  refine wpList_nil ?_
  clear a_14 HE15 HH13 HH20 a_16 HE17 K_18 hK19 a_22 HE23 HH21 K_24 hK25 a_26 HE27 HH28 K_29 hK30 a_31 HE32 HH33 K_34 hK35 HH38 K_39 hK40 HH41 hK43 K_42
  refine nrm ?_
  refine wp_seq ?_
  refine rg ?_
  refine pl_x HE37 HH44 (wt0 rfl) (x_fieldAddr fa_55_0 rfl) rfl rfl fun a_45 HE46 => ?_
  refine pl_x HE46 HH44 (wt0 rfl) (x_load1 tv_2 rfl (c_blk 5 rfl rfl)) rfl rfl fun a_47 HE48 => ?_
  refine pl fun K_49 hK50 => ?_
  refine st_make (E := eInt) (x := (0 : Int)) (k := ((a0.1).toNat)) HE48 HH44 ts_37 tv_2 rfl (fun _ => oI ⟨by omega, by omega⟩) rfl rfl (by omega) (by omega) (by omega) (by omega) (wt0 rfl) rfl fun q27 a_51 w' HE52 HH53 => hK50 _ _ ?_
  have hlq27 : (List.replicate ((a0.1).toNat) (0 : Int)).length = (a0.1).toNat := List.length_replicate
  refine pl fun K_54 hK55 => ?_
  refine st_alloc HE52 HH53 tv_37 (wt0 rfl) rfl fun q28 a_56 w' HE57 HH58 => hK55 _ _ ?_
  refine pl fun K_59 hK60 => ?_
  refine st_store (vs := [.slice (some ⟨q27, 0, none⟩) ((List.replicate ((a0.1).toNat) (0 : Int)).length) ((a0.1).toNat)]) 0 HE57 HH58 tv_37 rfl rfl rfl rfl rfl rfl (by simp [Value.oneCell']) (wt0 rfl) fun w' HH61 => hK60 _ _ ?_
  refine wpList_nil ?_
  clear a_36 HE37 a_45 HE46 a_47 HE48 HH44 K_49 hK50 a_51 HE52 HH53 K_54 hK55 HH58 hK60 K_59
  refine nrm ?_
  refine wp_seq ?_
  refine rg ?_
  refine pl fun K_62 hK63 => ?_
  refine st_alloc HE57 HH61 tv_121 (wt0 rfl) rfl fun q29 a_64 w' HE65 HH66 => hK63 _ _ ?_
  refine wpList_nil ?_
  clear a_56 HE57 HH61 hK63 K_62
  refine nrm ?_
  refine wp_seq ?_
  refine rg ?_
  refine pl_x HE65 HH66 (wt0 rfl) (x_makeFunc rfl rfl) rfl rfl fun a_67 HE68 => ?_
  refine pl fun K_69 hK70 => ?_
  refine st_store (vs := [.func (.func 104) #[] #[.pointer (some ⟨q21, 0, none⟩), .pointer (some ⟨q22, 0, none⟩), .pointer (some ⟨q28, 0, none⟩), .pointer (some ⟨q25, 0, none⟩), .pointer (some ⟨q26, 0, none⟩), .pointer (some ⟨q29, 0, none⟩)]]) 0 HE68 HH66 tv_121 rfl rfl rfl rfl rfl rfl (by simp [Value.oneCell']) (wt0 rfl) fun w' HH71 => hK70 _ _ ?_
  refine wpList_nil ?_
  clear a_64 HE65 HH66 hK70 K_69
  refine nrm ?_
  refine wp_seq ?_
  refine rg ?_
  refine pl_x HE68 HH71 (wt0 rfl) (x_load1 tv_121 rfl (c_blk 0 rfl rfl)) rfl rfl fun a_72 HE73 => ?_
  refine pl fun K_74 hK75 => ?_
  have HH76 := HH71.sel [5, 0, 1, 2, 3, 4, 6, 7, 8] (by decide) rfl
  have HH77 := Held.vecFlat (E := (eSl eInt)) (xs := []) (css := []) HH76 rfl (Nat.zero_le _) (fun i x hx => by simp at hx)
  have HH78 := HH77.sel [2, 3, 4, 0, 1, 5, 6, 7, 8] (by decide) rfl
  have HH79 : Held Nob w ([rBlk q28 37 [.slice (some ⟨q27, 0, none⟩) ((List.replicate ((a0.1).toNat) (0 : Int)).length) ((a0.1).toNat)], rSo eInt (fun b => b = q27) (some ⟨q27, 0, none⟩) ((a0.1).toNat) (List.replicate ((a0.1).toNat) (0 : Int)), rBlk q26 50 [.slice (some ⟨q24, 0, none⟩) (0) 0], rVec (eSl eInt) 37 (fun b => b = q24) (some ⟨q24, 0, none⟩) (List.length (α := (List Int)) []) ([] : List (List Int))] ++ [rBlk q29 121 [.func (.func 104) #[] #[.pointer (some ⟨q21, 0, none⟩), .pointer (some ⟨q22, 0, none⟩), .pointer (some ⟨q28, 0, none⟩), .pointer (some ⟨q25, 0, none⟩), .pointer (some ⟨q26, 0, none⟩), .pointer (some ⟨q29, 0, none⟩)]], rBlk q25 133 [.map (some gr23_0)], rMap gr23_0 (a0.2.2.2.map ruleK), rBlk q22 2 [.int .i64 (a1)], rBlk q21 55 [.int .i64 (a0.1), .int .i64 (a0.2.1), .int .i64 (a0.2.2.1), .slice Az0_3 (a0.2.2.2.length) cz0_3]]) _ := HH78
  refine st_callD HE73 (wt0 rfl) rfl rfl rfl en_104 rfl rfl (impl_fillT (Foot [rBlk q28 37 [.slice (some ⟨q27, 0, none⟩) ((List.replicate ((a0.1).toNat) (0 : Int)).length) ((a0.1).toNat)], rSo eInt (fun b => b = q27) (some ⟨q27, 0, none⟩) ((a0.1).toNat) (List.replicate ((a0.1).toNat) (0 : Int)), rBlk q26 50 [.slice (some ⟨q24, 0, none⟩) (0) 0], rVec (eSl eInt) 37 (fun b => b = q24) (some ⟨q24, 0, none⟩) (List.length (α := (List Int)) []) ([] : List (List Int))]) 0 _ [.int .i64 (a0.1), .int .i64 (a0.2.1), .int .i64 (a0.2.2.1), .slice Az0_3 (a0.2.2.2.length) cz0_3] a0 _ [.int .i64 (a1)] a1 _ _ _ _ (List.replicate ((a0.1).toNat) (0 : Int)) _ _ _ (a0.2.2.2.map ruleK) _ _ _ ([] : List (List Int)) _ _ _ HH79.focus (HH79.lendO H0) (c_blkN 8 rfl _ HH79) (HH79.nfB (i := 4) rfl) ⟨rfl, by exact ⟨by omega, by omega⟩⟩ (c_blkN 7 rfl _ HH79) (HH79.nfB (i := 3) rfl) (by first | rfl | omega) (c_blkN 5 rfl _ HH79) (HH79.nfB (i := 1) rfl) (HH79.getMap (i := 6) rfl) (HH79.nfMap (i := 2) rfl) (c_blkN 4 rfl _ HH79) (HH79.nfB (i := 0) rfl) (by first | omega | (simp; done)) (by first | omega | (simp; done)) (by omega) (by omega) (by omega) (by first | exact fillN_room (by omega) (by omega) (by omega) s6 | assumption)) fun e w' hr => ?_
  obtain ⟨Sr30_0, Ar30_1, cr30_1, Sr30_1, rfl, hbr30⟩ := hr
  have HH80 := HH79.back hbr30
  clear hbr30
  have HH81 : Held Nob w ([rBlk q28 37 [.slice (some ⟨q27, 0, none⟩) ((List.replicate ((a0.1).toNat) (0 : Int)).length) ((a0.1).toNat)], rSo eInt Sr30_0 (some ⟨q27, 0, none⟩) ((a0.1).toNat) ((fillF (a0.2.2.2.map ruleK) a1 a0.1.toNat a0.2.1.toNat (a0.1.toNat + 1) 0 (List.replicate ((a0.1).toNat) (0 : Int)) ([] : List (List Int))).1), rBlk q26 50 [.slice Ar30_1 ((List.length ((fillF (a0.2.2.2.map ruleK) a1 a0.1.toNat a0.2.1.toNat (a0.1.toNat + 1) 0 (List.replicate ((a0.1).toNat) (0 : Int)) ([] : List (List Int))).2))) cr30_1], rVec (eSl eInt) 37 Sr30_1 Ar30_1 cr30_1 ((fillF (a0.2.2.2.map ruleK) a1 a0.1.toNat a0.2.1.toNat (a0.1.toNat + 1) 0 (List.replicate ((a0.1).toNat) (0 : Int)) ([] : List (List Int))).2)] ++ [rBlk q29 121 [.func (.func 104) #[] #[.pointer (some ⟨q21, 0, none⟩), .pointer (some ⟨q22, 0, none⟩), .pointer (some ⟨q28, 0, none⟩), .pointer (some ⟨q25, 0, none⟩), .pointer (some ⟨q26, 0, none⟩), .pointer (some ⟨q29, 0, none⟩)]], rBlk q25 133 [.map (some gr23_0)], rMap gr23_0 (a0.2.2.2.map ruleK), rBlk q22 2 [.int .i64 (a1)], rBlk q21 55 [.int .i64 (a0.1), .int .i64 (a0.2.1), .int .i64 (a0.2.2.1), .slice Az0_3 (a0.2.2.2.length) cz0_3]]) _ := HH80
  have hAr30_0 := fillF_len (a0.2.2.2.map ruleK) a1 a0.1.toNat a0.2.1.toNat (a0.1.toNat + 1) 0 (List.replicate ((a0.1).toNat) (0 : Int)) ([] : List (List Int))
  refine ⟨_, rfl, fun a_82 HE83 => hK75 _ _ ?_⟩
  refine wpList_nil ?_
  clear a_67 HE68 HH71 HH76 HH77 HH78 HH79 HH80 a_72 HE73 hK75 K_74
  refine nrm ?_
  refine wp_seq ?_
  refine rg ?_
  refine pl_x HE83 HH81 (wt0 rfl) (x_load1 tv_50 rfl (c_blk 2 rfl rfl)) rfl rfl fun a_84 HE85 => ?_
  refine pl_x HE85 HH81 (wt0 rfl) (x_assign rfl) rfl rfl fun a_86 HE87 => ?_
  refine wpList_nil ?_
  clear a_82 HE83 a_84 HE85
  refine nrm ?_
  refine wp_ret ?_
  refine ret1 HE87 rfl (rv_tmp rfl) ?_
  have HH88 := HH81.sel [3, 0, 1, 2, 4, 5, 6, 7, 8] (by decide) rfl
  have HH89 := HH88.vecSo
  have hF : (hReads a0 a1) = (fillF (a0.2.2.2.map ruleK) a1 a0.1.toNat a0.2.1.toNat (a0.1.toNat + 1) 0 (List.replicate ((a0.1).toNat) (0 : Int)) ([] : List (List Int))).2 := by
    rfl
  exact ⟨Ar30_1, cr30_1, by first | (rw [hF] <;> rfl) | rfl | (rw [hF]; simp only [Ending.returned.injEq, Value.slice.injEq, true_and, and_true]; first | omega | (simp; done)) | (rw [hF]; simp; omega), by rw [hF]; exact (HH89.so (i := 0) rfl), HH89.below⟩

set_option maxRecDepth 100000 in
set_option maxHeartbeats 4000000 in
theorem impl_HaltingReads (es0 : List Value) (a0 : tMulti) (a1 : Int) (w : World) (h0 : eMulti.R w (Old w) es0 a0) :
    Calls Try.prog 29 #[.agg es0.toArray, .int .i64 a1] w fun e w' => ∃ (A0' : Option Addr) (c0' : Nat), e = .returned (.tuple #[.slice A0' (haltReads a0 a1).1.length c0', .int .i64 (haltReads a0 a1).2]) ∧ So (eSl eInt) w' (Fr w w') A0' c0' (haltReads a0 a1).1 ∧ Below w.heap.size w w' := by
  have H0 := h0
  obtain ⟨Az0_3, cz0_3, rfl, gz0_0, gz0_1, gz0_2, gz0_3⟩ := shape_Multi h0
  have jz0_0 := gz0_0; unfold I64 at jz0_0
  have jz0_1 := gz0_1; unfold I64 at jz0_1
  have jz0_2 := gz0_2; unfold I64 at jz0_2
  have lz0_3 := gz0_3.len
  have HH1 := Held.start Nob w
  refine enter (n := 18) Try.func29 rfl rfl rfl fun a_2 HE3 => ?_
  refine wp_seq ?_
  refine rg ?_
  refine pl fun K_4 hK5 => ?_
  refine st_box (cs := [.int .i64 (a0.1), .int .i64 (a0.2.1), .int .i64 (a0.2.2.1), .slice Az0_3 (a0.2.2.2.length) cz0_3]) HE3 HH1 rfl rfl (wt0 rfl) rfl fun q21 a_6 w' HE7 HH8 => hK5 _ _ ?_
  refine pl_x HE7 HH8 (wt0 rfl) (x_assign rfl) rfl rfl fun a_9 HE10 => ?_
  refine pl_x HE10 HH8 (wt0 rfl) (x_assign rfl) rfl rfl fun a_11 HE12 => ?_
  refine wpList_nil ?_
  clear a_2 HE3 HH1 a_6 HE7 a_9 HE10 hK5 K_4
  refine nrm ?_
  refine wp_seq ?_
  refine wp_seq ?_
  refine rg ?_
  refine pl_x HE12 HH8 (wt0 rfl) (x_loadN (cs := [.int .i64 (a0.1), .int .i64 (a0.2.1), .int .i64 (a0.2.2.1), .slice Az0_3 (a0.2.2.2.length) cz0_3]) tv_55 rfl rfl (c_blkN 0 rfl)) rfl rfl fun a_13 HE14 => ?_
  refine pl fun K_15 hK16 => ?_
  refine st_call HE14 (wt0 rfl) rfl rfl rfl en_64 rfl rfl (impl_ValidMulti [.int .i64 (a0.1), .int .i64 (a0.2.1), .int .i64 (a0.2.2.1), .slice Az0_3 (a0.2.2.2.length) cz0_3] a0 _ (HH8.oldR H0)) fun e w' hr => ?_
  obtain ⟨rfl, hbr22⟩ := hr
  have HH17 := HH8.on hbr22
  refine ⟨_, rfl, fun a_18 HE19 => hK16 _ _ ?_⟩
  refine pl_x HE19 HH17 (wt0 rfl) (x_not rfl) rfl rfl fun a_20 HE21 => ?_
  refine wpList_nil ?_
  clear a_11 HE12 HH8 a_13 HE14 a_18 HE19 hK16 K_15
  refine nrm ?_
  refine cnd_nb HE21 rfl (fun hc23 => ?_) (fun hc23 => ?_)
  · refine wp_seq ?_
    refine rg ?_
    refine pl_x HE21 HH17 (wt0 rfl) (x_assign rfl) rfl rfl fun a_22 HE23 => ?_
    refine pl_x HE23 HH17 (wt0 rfl) (x_assign rfl) rfl rfl fun a_24 HE25 => ?_
    refine wpList_nil ?_
    clear a_20 HE21 a_22 HE23
    refine nrm ?_
    refine wp_ret ?_
    refine (thn_ret ?_)
    refine ret2 HE25 rfl (rv_tmp rfl) (rv_tmp rfl) ?_
    have hF : (haltReads a0 a1) = ([], 1) := by
      first | (simp [haltReads, hc23]; done) | (unfold haltReads; rw [if_pos hvm, if_pos (by assumption)])
    exact ⟨none, 0, by first | (rw [hF] <;> rfl) | rfl | (rw [hF]; simp only [Ending.returned.injEq, Value.slice.injEq, true_and, and_true]; first | omega | (simp; done)) | (rw [hF]; simp; omega), by rw [hF]; exact (So.nil (Nat.zero_le _)), HH17.below⟩
  · have hvm := hc23
    obtain ⟨v0, v1, v2, v3⟩ := validMulti_facts hc23
    have hrr := validMulti_reads3 hc23
    refine wp_skip ?_
    refine nrm ?_
    refine wp_seq ?_
    refine wp_seq ?_
    refine rg ?_
    refine pl_x HE21 HH17 (wt0 rfl) (x_move rfl) rfl rfl fun a_26 HE27 => ?_
    refine pl_x HE27 HH17 (wt0 rfl) (x_fieldAddr fa_55_2 rfl) rfl rfl fun a_28 HE29 => ?_
    refine pl_x HE29 HH17 (wt0 rfl) (x_load1 tv_2 rfl (c_blk 0 rfl rfl)) rfl rfl fun a_30 HE31 => ?_
    refine pl_x HE31 HH17 (wt0 rfl) (x_sub rfl rfl (by exact ⟨by omega, by omega⟩)) rfl rfl fun a_32 HE33 => ?_
    refine pl fun K_34 hK35 => ?_
    refine st_call HE33 (wt0 rfl) rfl rfl rfl en_65 rfl rfl (impl_within a1 0 (a0.2.2.1 - 1) _ ) fun e w' hr => ?_
    obtain ⟨rfl, rfl⟩ := hr
    refine ⟨_, rfl, fun a_36 HE37 => hK35 _ _ ?_⟩
    refine pl_x HE37 HH17 (wt0 rfl) (x_not rfl) rfl rfl fun a_38 HE39 => ?_
    refine wpList_nil ?_
    clear a_20 HE21 a_26 HE27 a_28 HE29 a_30 HE31 a_32 HE33 a_36 HE37 hK35 K_34
    refine nrm ?_
    refine cnd_nb HE39 rfl (fun hc25 => ?_) (fun hc25 => ?_)
    · refine wp_seq ?_
      refine rg ?_
      refine pl_x HE39 HH17 (wt0 rfl) (x_assign rfl) rfl rfl fun a_40 HE41 => ?_
      refine pl_x HE41 HH17 (wt0 rfl) (x_assign rfl) rfl rfl fun a_42 HE43 => ?_
      refine wpList_nil ?_
      clear a_38 HE39 a_40 HE41
      refine nrm ?_
      refine wp_ret ?_
      refine (thn_ret ?_)
      refine ret2 HE43 rfl (rv_tmp rfl) (rv_tmp rfl) ?_
      have hF : (haltReads a0 a1) = ([], 2) := by
        first | (simp [haltReads, hc23, hc25]; done) | (unfold haltReads; rw [if_pos hvm, if_pos (by assumption)])
      exact ⟨none, 0, by first | (rw [hF] <;> rfl) | rfl | (rw [hF]; simp only [Ending.returned.injEq, Value.slice.injEq, true_and, and_true]; first | omega | (simp; done)) | (rw [hF]; simp; omega), by rw [hF]; exact (So.nil (Nat.zero_le _)), HH17.below⟩
    · have hwb := withinB_true.1 hc25
      refine wp_skip ?_
      refine nrm ?_
      refine wp_seq ?_
      refine rg ?_
      refine pl_x HE39 HH17 (wt0 rfl) (x_loadN (cs := [.int .i64 (a0.1), .int .i64 (a0.2.1), .int .i64 (a0.2.2.1), .slice Az0_3 (a0.2.2.2.length) cz0_3]) tv_55 rfl rfl (c_blkN 0 rfl)) rfl rfl fun a_44 HE45 => ?_
      refine pl_x HE45 HH17 (wt0 rfl) (x_move rfl) rfl rfl fun a_46 HE47 => ?_
      refine pl fun K_48 hK49 => ?_
      refine st_call HE47 (wt0 rfl) rfl rfl rfl en_66 rfl rfl (impl_haltingReads [.int .i64 (a0.1), .int .i64 (a0.2.1), .int .i64 (a0.2.2.1), .slice Az0_3 (a0.2.2.2.length) cz0_3] a0 a1 _ (HH17.oldR H0) (by assumption) (by omega) (by omega)) fun e w' hr => ?_
      obtain ⟨Ar26_0, cr26_0, rfl, hor26_0, hbr26⟩ := hr
      obtain ⟨Sr26, HH50⟩ := HH17.newS hbr26 hor26_0
      refine ⟨_, rfl, fun a_51 HE52 => hK49 _ _ ?_⟩
      refine pl_x HE52 HH50 (wt0 rfl) (x_assign rfl) rfl rfl fun a_53 HE54 => ?_
      refine pl_x HE54 HH50 (wt0 rfl) (x_assign rfl) rfl rfl fun a_55 HE56 => ?_
      refine wpList_nil ?_
      clear a_38 HE39 a_44 HE45 HH17 a_46 HE47 a_51 HE52 a_53 HE54 hK49 K_48
      refine nrm ?_
      refine wp_ret ?_
      refine ret2 HE56 rfl (rv_tmp rfl) (rv_tmp rfl) ?_
      have hF : (haltReads a0 a1) = ((hReads a0 a1), 0) := by
        first | (simp [haltReads, hc23, hc25]; done) | (unfold haltReads; rw [if_pos hvm, if_pos (by assumption)])
      exact ⟨Ar26_0, cr26_0, by first | (rw [hF] <;> rfl) | rfl | (rw [hF]; simp only [Ending.returned.injEq, Value.slice.injEq, true_and, and_true]; first | omega | (simp; done)) | (rw [hF]; simp; omega), by rw [hF]; exact (HH50.so (i := 0) rfl), HH50.below⟩

set_option maxRecDepth 100000 in
set_option maxHeartbeats 4000000 in
theorem spec_l06RuleOf (p0 o0 : Nat) (es0 : List Value) (a0 : tMulti) (a1 : Int) (A2 : Option Addr) (c2 : Nat) (a2 : (List Int)) (w : World) (h0 : eMulti.R w (Old w) es0 a0) (hq0 : ∀ j v, es0[j]? = some v → w.cell? ⟨p0, o0 + j, none⟩ = some v) (h2 : Sl eInt w (Old w) A2 c2 a2) :
    Calls Try.prog 99 #[.pointer (some ⟨p0, o0, none⟩), .int .i64 a1, .slice A2 a2.length c2] w fun e w' => e = .returned (.int .i64 (ruleI a0.2.2.2 a1 a2)) ∧ Below w.heap.size w w' := by
  have H0 := h0
  obtain ⟨Az0_3, cz0_3, rfl, gz0_0, gz0_1, gz0_2, gz0_3⟩ := shape_Multi h0
  have jz0_0 := gz0_0; unfold I64 at jz0_0
  have jz0_1 := gz0_1; unfold I64 at jz0_1
  have jz0_2 := gz0_2; unfold I64 at jz0_2
  have lz0_3 := gz0_3.len
  have l2 := h2.len
  have HH1 := Held.start Nob w
  refine enter (n := 40) Try.func99 rfl rfl rfl fun a_2 HE3 => ?_
  refine wp_seq ?_
  refine rg ?_
  refine pl_x HE3 HH1 (wt0 rfl) (x_assign rfl) rfl rfl fun a_4 HE5 => ?_
  refine wpList_nil ?_
  clear a_2 HE3
  refine nrm ?_
  refine wp_seq ?_
  refine wp_seq ?_
  refine rg ?_
  refine pl_x HE5 HH1 (wt0 rfl) (x_assign rfl) rfl rfl fun a_6 HE7 => ?_
  refine wpList_nil ?_
  clear a_4 HE5
  refine nrm ?_
  refine wp_block ?_
  refine lp (fun m a w' => ∃ (k : Nat), m = a0.2.2.2.length - k ∧ Env 40 [(7, .int .i64 (k : Int)), (0, .pointer (some ⟨p0, o0, none⟩)), (1, .int .i64 (a1)), (2, .slice A2 (a2.length) c2)] a ∧ Held Nob w [] w' ∧ (k ≤ a0.2.2.2.length) ∧ ((a0.2.2.2.take k).any (hitM a1 a2) = false)) (a0.2.2.2.length - (0)) ?_ ?_
  · exact ⟨0, rfl, HE7.sub ⟨(lkI rfl (by first | rfl | omega | (simp []; done))), rfl, rfl, rfl, trivial⟩, (HH1.sel [] (by decide) rfl), (by first | omega | assumption | (simp; done) | simp_all), (by rfl)⟩
  · rintro m a_8 w' ⟨k, rfl, HE9, HH10, p21_0, p21_1⟩
    refine wp_seq ?_
    refine wp_seq ?_
    refine rg ?_
    refine pl_x HE9 HH10 (wt0 rfl) (x_move rfl) rfl rfl fun a_11 HE12 => ?_
    refine pl_x HE12 HH10 (wt0 rfl) (x_move rfl) rfl rfl fun a_13 HE14 => ?_
    refine pl_x HE14 HH10 (wt0 rfl) (x_nilCheck rfl) rfl rfl fun a_15 HE16 => ?_
    refine pl_x HE16 HH10 (wt0 rfl) (x_fieldAddr fa_55_3 rfl) rfl rfl fun a_17 HE18 => ?_
    refine pl_x HE18 HH10 (wt0 rfl) (x_load1 tv_53 rfl (c_old (hq0 3 _ rfl))) rfl rfl fun a_19 HE20 => ?_
    refine pl_x HE20 HH10 (wt0 rfl) (x_len Try.underlying53 rfl) rfl rfl fun a_21 HE22 => ?_
    refine pl_x HE22 HH10 (wt0 rfl) (x_lss rfl rfl) rfl rfl fun a_23 HE24 => ?_
    refine wpList_nil ?_
    clear a_6 HE7 HH1 a_8 HE9 a_11 HE12 a_13 HE14 a_15 HE16 a_17 HE18 a_19 HE20 a_21 HE22
    refine nrm ?_
    refine cnd_d HE24 rfl (fun hc22 => ?_) (fun hc22 => ?_)
    · refine wp_skip ?_
      refine nrm ?_
      refine wp_seq ?_
      refine wp_block ?_
      refine wp_seq ?_
      refine rg ?_
      refine pl_x HE24 HH10 (wt0 rfl) (x_move rfl) rfl rfl fun a_25 HE26 => ?_
      refine pl_x HE26 HH10 (wt0 rfl) (x_nilCheck rfl) rfl rfl fun a_27 HE28 => ?_
      refine pl_x HE28 HH10 (wt0 rfl) (x_fieldAddr fa_55_3 rfl) rfl rfl fun a_29 HE30 => ?_
      refine pl_x HE30 HH10 (wt0 rfl) (x_load1 tv_53 rfl (c_old (hq0 3 _ rfl))) rfl rfl fun a_31 HE32 => ?_
      refine pl_x HE32 HH10 (wt0 rfl) (x_move rfl) rfl rfl fun a_33 HE34 => ?_
      have ke23 : k < a0.2.2.2.length := by omega
      obtain ⟨be23, fe23, ese23, Ae23, Re23, De23⟩ := el_old gz0_3 ke23
      obtain ⟨e23, xe23⟩ : ∃ x_, x_ = a0.2.2.2[k] := ⟨_, rfl⟩
      rw [← xe23] at Re23
      have Qe23 := Re23
      obtain ⟨Ae23_1, ce23_1, Ae23_2, ce23_2, Ae23_3, ce23_3, rfl, ge23_0, ge23_1, ge23_2, ge23_3, ge23_4⟩ := shape_MultiRule Re23
      have je23_0 := ge23_0; unfold I64 at je23_0
      have le23_1 := ge23_1.len
      have le23_2 := ge23_2.len
      have le23_3 := ge23_3.len
      have je23_4 := ge23_4; unfold I64 at je23_4
      refine pl_x HE34 HH10 (wt0 rfl) (x_indexAddr ts_53 rfl rfl Ae23 rfl ke23) rfl rfl fun a_35 HE36 => ?_
      refine pl_x HE36 HH10 (wt0 rfl) (x_fieldAddr fa_104_0 rfl) rfl rfl fun a_37 HE38 => ?_
      refine pl_x HE38 HH10 (wt0 rfl) (x_load1 tv_2 rfl (c_old (De23 0 _ rfl))) rfl rfl fun a_39 HE40 => ?_
      refine pl_x HE40 HH10 (wt0 rfl) (x_move rfl) rfl rfl fun a_41 HE42 => ?_
      refine pl_x HE42 HH10 (wt0 rfl) (x_eql rfl rfl) rfl rfl fun a_43 HE44 => ?_
      refine pl_x HE44 HH10 (wt0 rfl) (x_move rfl) rfl rfl fun a_45 HE46 => ?_
      by_cases hc24 : e23.1 = a1
      · refine pl_x HE46 HH10 (wtT HE46 rfl rfl rfl (beq_t hc24)) (x_move rfl) rfl rfl fun a_47 HE48 => ?_
        refine pl_x HE48 HH10 (wtT HE48 rfl rfl rfl (beq_t hc24)) (x_nilCheck rfl) rfl rfl fun a_49 HE50 => ?_
        refine pl_x HE50 HH10 (wtT HE50 rfl rfl rfl (beq_t hc24)) (x_fieldAddr fa_55_3 rfl) rfl rfl fun a_51 HE52 => ?_
        refine pl_x HE52 HH10 (wtT HE52 rfl rfl rfl (beq_t hc24)) (x_load1 tv_53 rfl (c_old (hq0 3 _ rfl))) rfl rfl fun a_53 HE54 => ?_
        refine pl_x HE54 HH10 (wtT HE54 rfl rfl rfl (beq_t hc24)) (x_move rfl) rfl rfl fun a_55 HE56 => ?_
        refine pl_x HE56 HH10 (wtT HE56 rfl rfl rfl (beq_t hc24)) (x_indexAddr ts_53 rfl rfl Ae23 rfl ke23) rfl rfl fun a_57 HE58 => ?_
        refine pl_x HE58 HH10 (wtT HE58 rfl rfl rfl (beq_t hc24)) (x_fieldAddr fa_104_1 rfl) rfl rfl fun a_59 HE60 => ?_
        refine pl_x HE60 HH10 (wtT HE60 rfl rfl rfl (beq_t hc24)) (x_load1 tv_37 rfl (c_old (De23 1 _ rfl))) rfl rfl fun a_61 HE62 => ?_
        refine pl_x HE62 HH10 (wtT HE62 rfl rfl rfl (beq_t hc24)) (x_move rfl) rfl rfl fun a_63 HE64 => ?_
        refine pl fun K_65 hK66 => ?_
        refine st_call HE64 (wtT HE64 rfl rfl rfl (beq_t hc24)) rfl rfl rfl en_115 rfl rfl (spec_l00Same _ _ _ _ e23.2.1 a2 _ (HH10.old ge23_1) (HH10.old h2)) fun e w' hr => ?_
        obtain ⟨rfl, hbr25⟩ := hr
        have HH67 := HH10.on hbr25.below
        refine ⟨_, rfl, fun a_68 HE69 => hK66 _ _ ?_⟩
        refine pl_x HE69 HH67 (wt0 rfl) (x_pickT rfl (beq_t hc24) rfl) rfl rfl fun a_70 HE71 => ?_
        refine wpList_nil ?_
        clear a_23 HE24 a_25 HE26 a_27 HE28 a_29 HE30 a_31 HE32 a_33 HE34 a_35 HE36 a_37 HE38 a_39 HE40 a_41 HE42 a_43 HE44 a_45 HE46 a_47 HE48 a_49 HE50 a_51 HE52 a_53 HE54 a_55 HE56 a_57 HE58 a_59 HE60 a_61 HE62 HH10 a_63 HE64 a_68 HE69 hK66 K_65
        refine nrm ?_
        refine cnd_b HE71 rfl (fun hc26 => ?_) (fun hc26 => ?_)
        · refine wp_seq ?_
          refine rg ?_
          refine pl_x HE71 HH67 (wt0 rfl) (x_move rfl) rfl rfl fun a_72 HE73 => ?_
          refine pl_x HE73 HH67 (wt0 rfl) (x_assign rfl) rfl rfl fun a_74 HE75 => ?_
          refine wpList_nil ?_
          clear a_70 HE71 a_72 HE73
          refine nrm ?_
          refine wp_ret ?_
          refine (blk_ret (thn_ret (thn_ret (blk_ret (thn_ret ?_)))))
          refine ret1 HE75 rfl (rv_tmp rfl) ?_
          have hF : (ruleI a0.2.2.2 a1 a2) = (k : Int) := by
            first | exact ruleI_hit (by omega) p21_1 (by rw [← xe23]; unfold hitM; grind) | exact ruleI_miss (by omega) p21_1
          exact ⟨by first | (rw [hF] <;> rfl) | rfl | (rw [hF]; simp only [Ending.returned.injEq, Value.slice.injEq, true_and, and_true]; first | omega | (simp; done)) | (rw [hF]; simp; omega), HH67.below⟩
        · refine wp_skip ?_
          refine blk_n ?_
          refine nrm ?_
          refine rg ?_
          refine pl_x HE71 HH67 (wt0 rfl) (x_move rfl) rfl rfl fun a_76 HE77 => ?_
          refine pl_x HE77 HH67 (wt0 rfl) (x_add rfl rfl (by exact ⟨by omega, by omega⟩)) rfl rfl fun a_78 HE79 => ?_
          refine pl_x HE79 HH67 (wt0 rfl) (x_assign rfl) rfl rfl fun a_80 HE81 => ?_
          refine wpList_nil ?_
          clear a_70 HE71 a_76 HE77 a_78 HE79
          exact nrm ⟨a0.2.2.2.length - (k + 1), (by omega), k + 1, rfl, HE81.sub ⟨(lkI rfl (by first | rfl | omega | (simp [p21_0, p21_1, hc22, xe23, hc24, hc26]; done))), rfl, rfl, rfl, trivial⟩, (HH67.sel [] (by decide) rfl), (by first | omega | assumption | (simp; done) | simp_all), (by exact any_step (by omega) p21_1 (by rw [← xe23]; unfold hitM; grind))⟩
      · refine pl_no HE46 (wtF HE46 rfl rfl rfl (beq_f hc24)) rfl rfl fun a_82 HE83 => ?_
        refine pl_no HE83 (wtF HE83 rfl rfl rfl (beq_f hc24)) rfl rfl fun a_84 HE85 => ?_
        refine pl_no HE85 (wtF HE85 rfl rfl rfl (beq_f hc24)) rfl rfl fun a_86 HE87 => ?_
        refine pl_no HE87 (wtF HE87 rfl rfl rfl (beq_f hc24)) rfl rfl fun a_88 HE89 => ?_
        refine pl_no HE89 (wtF HE89 rfl rfl rfl (beq_f hc24)) rfl rfl fun a_90 HE91 => ?_
        refine pl_no HE91 (wtF HE91 rfl rfl rfl (beq_f hc24)) rfl rfl fun a_92 HE93 => ?_
        refine pl_no HE93 (wtF HE93 rfl rfl rfl (beq_f hc24)) rfl rfl fun a_94 HE95 => ?_
        refine pl_no HE95 (wtF HE95 rfl rfl rfl (beq_f hc24)) rfl rfl fun a_96 HE97 => ?_
        refine pl_no HE97 (wtF HE97 rfl rfl rfl (beq_f hc24)) rfl rfl fun a_98 HE99 => ?_
        refine pl_no HE99 (wtF HE99 rfl rfl rfl (beq_f hc24)) rfl rfl fun a_100 HE101 => ?_
        refine pl_x HE101 HH10 (wt0 rfl) (x_pickF rfl (beq_f hc24) rfl) rfl rfl fun a_102 HE103 => ?_
        refine wpList_nil ?_
        clear a_23 HE24 a_25 HE26 a_27 HE28 a_29 HE30 a_31 HE32 a_33 HE34 a_35 HE36 a_37 HE38 a_39 HE40 a_41 HE42 a_43 HE44 a_45 HE46 a_82 HE83 a_84 HE85 a_86 HE87 a_88 HE89 a_90 HE91 a_92 HE93 a_94 HE95 a_96 HE97 a_98 HE99 a_100 HE101
        refine nrm ?_
        refine cndF HE103 rfl rfl ?_
        refine wp_skip ?_
        refine blk_n ?_
        refine nrm ?_
        refine rg ?_
        refine pl_x HE103 HH10 (wt0 rfl) (x_move rfl) rfl rfl fun a_104 HE105 => ?_
        refine pl_x HE105 HH10 (wt0 rfl) (x_add rfl rfl (by exact ⟨by omega, by omega⟩)) rfl rfl fun a_106 HE107 => ?_
        refine pl_x HE107 HH10 (wt0 rfl) (x_assign rfl) rfl rfl fun a_108 HE109 => ?_
        refine wpList_nil ?_
        clear a_102 HE103 a_104 HE105 a_106 HE107
        exact nrm ⟨a0.2.2.2.length - (k + 1), (by omega), k + 1, rfl, HE109.sub ⟨(lkI rfl (by first | rfl | omega | (simp [p21_0, p21_1, hc22, xe23, hc24]; done))), rfl, rfl, rfl, trivial⟩, (HH10.sel [] (by decide) rfl), (by first | omega | assumption | (simp; done) | simp_all), (by exact any_step (by omega) p21_1 (by rw [← xe23]; unfold hitM; grind))⟩
    · refine wp_exit ?_
      refine (thn_exit (thn_exit (blk_hit ?_)))
      refine nrm ?_
      refine wp_seq ?_
      refine rg ?_
      refine pl_x HE24 HH10 (wt0 rfl) (x_assign rfl) rfl rfl fun a_110 HE111 => ?_
      refine wpList_nil ?_
      clear a_23 HE24
      refine nrm ?_
      refine wp_ret ?_
      refine ret1 HE111 rfl (rv_tmp rfl) ?_
      have hF : (ruleI a0.2.2.2 a1 a2) = -1 := by
        first | exact ruleI_hit (by omega) p21_1 (by rw [← xe0]; unfold hitM; grind) | exact ruleI_miss (by omega) p21_1
      exact ⟨by first | (rw [hF] <;> rfl) | rfl | (rw [hF]; simp only [Ending.returned.injEq, Value.slice.injEq, true_and, and_true]; first | omega | (simp; done)) | (rw [hF]; simp; omega), HH10.below⟩

set_option maxRecDepth 100000 in
set_option maxHeartbeats 4000000 in
theorem spec_l06Reads (p0 o0 : Nat) (es0 : List Value) (a0 : tMulti) (a1 : Int) (w : World) (h0 : eMulti.R w (Old w) es0 a0) (hq0 : ∀ j v, es0[j]? = some v → w.cell? ⟨p0, o0 + j, none⟩ = some v) (s0 : validMulti a0 = true) (s1 : 0 ≤ a1 ∧ a1 ≤ 1000) :
    Calls Try.prog 62 #[.pointer (some ⟨p0, o0, none⟩), .int .i64 a1] w fun e w' => ∃ (A0' : Option Addr) (c0' : Nat), e = .returned (.slice A0' (hReads a0 a1).length c0') ∧ So (eSl eInt) w' (Fr w w') A0' c0' (hReads a0 a1) ∧ Below w.heap.size w w' := by
  have H0 := h0
  obtain ⟨Az0_3, cz0_3, rfl, gz0_0, gz0_1, gz0_2, gz0_3⟩ := shape_Multi h0
  have jz0_0 := gz0_0; unfold I64 at jz0_0
  have jz0_1 := gz0_1; unfold I64 at jz0_1
  have jz0_2 := gz0_2; unfold I64 at jz0_2
  have lz0_3 := gz0_3.len
  obtain ⟨v0, v1, v2, v3⟩ := validMulti_facts s0
  have hrl := validMulti_reads s0
  have HH1 := Held.start Nob w
  refine enter (n := 55) Try.func62 rfl rfl rfl fun a_2 HE3 => ?_
  refine wp_seq ?_
  refine rg ?_
  refine pl_x HE3 HH1 (wt0 rfl) (x_assign rfl) rfl rfl fun a_4 HE5 => ?_
  refine wpList_nil ?_
  clear a_2 HE3
  refine nrm ?_
  refine wp_seq ?_
  refine rg ?_
  refine pl fun K_6 hK7 => ?_
  refine st_lit (m := 0) (cs := []) (e := 37) HE5 HH1 (run_lit ts_50 HE5 (vs := []) rfl rfl (by simp [Value.cells]) rfl (by decide)) (wt0 rfl) rfl rfl fun q21 a_8 w' HE9 HH10 => hK7 _ _ ?_
  refine pl_x HE9 HH10 (wt0 rfl) (x_assign rfl) rfl rfl fun a_11 HE12 => ?_
  refine wpList_nil ?_
  clear a_4 HE5 HH1 a_8 HE9 hK7 K_6
  refine nrm ?_
  refine wp_seq ?_
  refine rg ?_
  refine pl_x HE12 HH10 (wt0 rfl) (x_move rfl) rfl rfl fun a_13 HE14 => ?_
  refine pl_x HE14 HH10 (wt0 rfl) (x_nilCheck rfl) rfl rfl fun a_15 HE16 => ?_
  refine pl_x HE16 HH10 (wt0 rfl) (x_fieldAddr fa_55_0 rfl) rfl rfl fun a_17 HE18 => ?_
  refine pl_x HE18 HH10 (wt0 rfl) (x_load1 tv_2 rfl (c_old (hq0 0 _ rfl))) rfl rfl fun a_19 HE20 => ?_
  refine pl fun K_21 hK22 => ?_
  refine st_make (E := eInt) (x := (0 : Int)) (k := ((a0.1).toNat)) HE20 HH10 ts_37 tv_2 rfl (fun _ => oI ⟨by omega, by omega⟩) rfl rfl (by omega) (by omega) (by omega) (by omega) (wt0 rfl) rfl fun q22 a_23 w' HE24 HH25 => hK22 _ _ ?_
  have hlq22 : (List.replicate ((a0.1).toNat) (0 : Int)).length = (a0.1).toNat := List.length_replicate
  refine pl_x HE24 HH25 (wt0 rfl) (x_assign rfl) rfl rfl fun a_26 HE27 => ?_
  refine wpList_nil ?_
  clear a_11 HE12 a_13 HE14 a_15 HE16 a_17 HE18 a_19 HE20 HH10 a_23 HE24 hK22 K_21
  refine nrm ?_
  refine wp_block ?_
  have HH28 := HH25.sel [1, 0] (by decide) rfl
  have HH29 := Held.vecFlat (E := (eSl eInt)) (xs := []) (css := []) HH28 rfl (Nat.zero_le _) (fun i x hx => by simp at hx)
  refine lp (fun m a w' => ∃ (r : List Int) (o : List (List Int)) (A_5 : Option Addr) (c_5 : Nat) (S_5 : Nat → Prop) (S_6 : Nat → Prop), m = (seqF a0.2.1.toNat r).length ∧ Env 55 [(5, .slice A_5 (List.length o) c_5), (0, .pointer (some ⟨p0, o0, none⟩)), (1, .int .i64 (a1)), (6, .slice (some ⟨q22, 0, none⟩) ((List.replicate ((a0.1).toNat) (0 : Int)).length) ((a0.1).toNat))] a ∧ Held Nob w [rVec (eSl eInt) 37 S_5 A_5 c_5 o, rSo eInt S_6 (some ⟨q22, 0, none⟩) ((a0.1).toNat) r] w' ∧ (r.length = a0.1.toNat) ∧ (∀ x ∈ r, 0 ≤ x ∧ x ≤ (a0.2.1.toNat : Int) - 1) ∧ (hReads a0 a1 = o ++ goodL (a0.2.2.2.map ruleK) a1 (seqF a0.2.1.toNat r)) ∧ (o.length + (seqF a0.2.1.toNat r).length ≤ 1000000)) ((seqF a0.2.1.toNat ((List.replicate (a0.1).toNat 0))).length) ?_ ?_
  · have E23 : ([]) = ([] : List (List Int)) := by
      first | rfl | simp
    have E24 : ((List.replicate (a0.1).toNat 0)) = (List.replicate ((a0.1).toNat) (0 : Int)) := by
      first | rfl | simp
    exact ⟨(List.replicate (a0.1).toNat 0), [], (some ⟨q21, 0, none⟩), (List.length (α := (List Int)) []), (fun b => b = q21), (fun b => b = q22), rfl, HE27.sub ⟨(by rw [E23]; rfl), rfl, rfl, rfl, trivial⟩, ((HH29.sel [0, 1] (by decide) rfl).to (by first | rfl | (rw [E23, E24]; done) | (rw [E23, E24]; rfl) | (simp only [E23, E24]; done) | (simp only [E23, E24]; rfl) | (rw [E23, E24]; simp only [List.length_set]; done))), (by simp), (by intro x hx; rw [(List.mem_replicate.1 hx).2]; omega), (by rw [hReads_eq, seqF_zero (by omega)]; rfl), (by rw [seqF_zero (by omega), allF_len]; have q := pow_room (S := a0.2.1.toNat) (T := a0.1.toNat) (by omega) (by omega); simpa using q)⟩
  · rintro m a_30 w' ⟨r, o, A_5, c_5, S_5, S_6, rfl, HE31, HH32, p25_0, p25_1, p25_2, p25_3⟩
    have hng := ruleI_neg (m := a0) (st := a1) (r := r) (fun x hx => by rw [hrl x hx]; omega) (by omega)
    refine wp_block ?_
    refine wp_seq ?_
    refine wp_seq ?_
    refine rg ?_
    refine pl_x HE31 HH32 (wt0 rfl) (x_move rfl) rfl rfl fun a_33 HE34 => ?_
    refine pl_x HE34 HH32 (wt0 rfl) (x_move rfl) rfl rfl fun a_35 HE36 => ?_
    refine pl_x HE36 HH32 (wt0 rfl) (x_move rfl) rfl rfl fun a_37 HE38 => ?_
    refine pl fun K_39 hK40 => ?_
    have HE41 := HE38.castS (t := 16) (m' := List.length r) rfl (by first | omega | (simp; done) | (simp; omega))
    refine st_call HE41 (wt0 rfl) rfl rfl rfl en_99 rfl rfl (spec_l06RuleOf _ _ _ a0 a1 _ _ r _ (HH32.oldR H0) (c_oldN hq0 _ HH32) (HH32.sl (i := 1) rfl)) fun e w' hr => ?_
    obtain ⟨rfl, hbr26⟩ := hr
    have HH42 := HH32.on hbr26
    refine ⟨_, rfl, fun a_43 HE44 => hK40 _ _ ?_⟩
    refine pl_x HE44 HH42 (wt0 rfl) (x_lss rfl rfl) rfl rfl fun a_45 HE46 => ?_
    refine wpList_nil ?_
    clear HH25 HH28 a_26 HE27 HH29 a_30 HE31 a_33 HE34 a_35 HE36 HE38 HH32 a_37 HE41 a_43 HE44 hK40 K_39
    refine nrm ?_
    refine cnd_d HE46 rfl (fun hc27 => ?_) (fun hc27 => ?_)
    · refine rg ?_
      refine pl_x HE46 HH42 (wt0 rfl) (x_move rfl) rfl rfl fun a_47 HE48 => ?_
      refine pl_x HE48 HH42 (wt0 rfl) (x_move rfl) rfl rfl fun a_49 HE50 => ?_
      refine pl fun K_51 hK52 => ?_
      have HE53 := HE50.castS (t := 20) (m' := List.length r) rfl (by first | omega | (simp; done) | (simp; omega))
      refine st_call HE53 (wt0 rfl) rfl rfl rfl en_42 rfl rfl (spec_l00Own _ _ r _ (HH42.sl (i := 1) rfl) (by omega)) fun e w' hr => ?_
      obtain ⟨Ar28_0, cr28_0, rfl, hor28_0, hbr28⟩ := hr
      obtain ⟨Sr28, HH54⟩ := HH42.newS hbr28 hor28_0
      refine ⟨_, rfl, fun a_55 HE56 => hK52 _ _ ?_⟩
      refine pl fun K_57 hK58 => ?_
      refine st_lit (m := 1) (cs := [.slice Ar28_0 (r.length) cr28_0]) (e := 37) HE56 HH54 (run_lit ts_50 HE56 (vs := [.slice Ar28_0 (r.length) cr28_0]) rfl rfl (by simp [Value.cells]) rfl (by decide)) (wt0 rfl) rfl rfl fun q29 a_59 w' HE60 HH61 => hK58 _ _ ?_
      refine pl fun K_62 hK63 => ?_
      refine st_app1 HE60 HH61 ts_50 [2, 1, 0, 3] (by decide) rfl rfl rfl (by simp [Value.oneCell']) (by unfold maxLen; first | omega | (simp; done) | (simp; omega)) (by first | omega | (simp; done) | (simp; omega)) (wt0 rfl) rfl fun A30 c31 S32 a_64 w' HE65 HH66 => hK63 _ _ ?_
      refine pl_x HE65 HH66 (wt0 rfl) (x_assign rfl) rfl rfl fun a_67 HE68 => ?_
      refine wpList_nil ?_
      clear a_45 HE46 a_47 HE48 HE50 HH42 a_49 HE53 K_51 hK52 a_55 HE56 HH54 K_57 hK58 a_59 HE60 HH61 a_64 HE65 hK63 K_62
      refine nrm ?_
      refine wp_seq ?_
      refine rg ?_
      refine pl_x HE68 HH66 (wt0 rfl) (x_move rfl) rfl rfl fun a_69 HE70 => ?_
      refine pl_x HE70 HH66 (wt0 rfl) (x_len Try.underlying37 rfl) rfl rfl fun a_71 HE72 => ?_
      refine pl_x HE72 HH66 (wt0 rfl) (x_sub rfl rfl (by exact ⟨by omega, by omega⟩)) rfl rfl fun a_73 HE74 => ?_
      refine pl_x HE74 HH66 (wt0 rfl) (x_assign rfl) rfl rfl fun a_75 HE76 => ?_
      refine wpList_nil ?_
      clear a_67 HE68 a_69 HE70 a_71 HE72 a_73 HE74
      refine nrm ?_
      refine wp_seq ?_
      refine wp_block ?_
      refine lp (fun m a w' => ∃ (v : Nat) (S_6 : Nat → Prop), m = 0 + v ∧ Env 55 [(7, .int .i64 ((v : Int) - 1)), (0, .pointer (some ⟨p0, o0, none⟩)), (1, .int .i64 (a1)), (5, .slice A30 ((o ++ [r]).length) c31), (6, .slice (some ⟨q22, 0, none⟩) ((List.replicate ((a0.1).toNat) (0 : Int)).length) ((a0.1).toNat))] a ∧ Held Nob w [rSo eInt S_6 (some ⟨q22, 0, none⟩) ((a0.1).toNat) (rowZ r v), rVec (eSl eInt) 37 S32 A30 c31 (o ++ [r]), rBlk q29 37 [.slice Ar28_0 (r.length) cr28_0]] w' ∧ (v ≤ r.length) ∧ (∀ j, v ≤ j → j < r.length → r[j]?.getD 0 = (a0.2.1.toNat : Int) - 1)) (0 + (r.length)) ?_ ?_
      · have E33 : rowZ r (r.length) = r := by
          exact rowZ_all r
        exact ⟨r.length, S_6, rfl, HE76.sub ⟨(lkI rfl (by omega)), rfl, rfl, rfl, rfl, trivial⟩, ((HH66.sel [2, 0, 1] (by decide) rfl).to (by first | rfl | (rw [E33]; done) | (rw [E33]; rfl) | (simp only [E33]; done) | (simp only [E33]; rfl) | (rw [E33]; simp only [List.length_set]; done))), (by first | omega | assumption | (simp; done) | simp_all), (by intro j h1 h2; omega)⟩
      · rintro m a_77 w' ⟨v, S_6, rfl, HE78, HH79, p34_0, p34_1⟩
        have hzl := rowZ_len r (v := v) (by omega)
        refine wp_seq ?_
        refine wp_seq ?_
        refine dr_start (Held Nob w [rSo eInt S_6 (some ⟨q22, 0, none⟩) ((a0.1).toNat) (rowZ r v), rVec (eSl eInt) 37 S32 A30 c31 (o ++ [r]), rBlk q29 37 [.slice Ar28_0 (r.length) cr28_0]]) 14 #[false, false, false, false, false, false, false, false, false, false, false, false, false, false] hmix rfl rfl HH79 (fun _ h => h.sel [0, 1, 2] (by decide) rfl) fun w' HH80 => ?_
        have HS81 := HH80
        refine dr_take (i := 0) (ls' := #[true, false, false, false, false, false, false, false, false, false, false, false, false, false]) HE78 HS81 rfl (by kernel_rfl) (by kernel_rfl) (by kernel_rfl) (fun _ _ _ h => h) rfl (wt0 rfl) (x_move rfl) rfl rfl fun a_82 HE83 => ?_
        refine dr_take (i := 1) (ls' := #[true, true, false, false, false, false, false, false, false, false, false, false, false, false]) HE83 HS81 rfl (by kernel_rfl) (by kernel_rfl) (by kernel_rfl) (fun _ _ _ h => h) rfl (wt0 rfl) (x_geq rfl rfl) rfl rfl fun a_84 HE85 => ?_
        refine dr_take (i := 2) (ls' := #[true, true, true, false, false, false, false, false, false, false, false, false, false, false]) HE85 HS81 rfl (by kernel_rfl) (by kernel_rfl) (by kernel_rfl) (fun _ _ _ h => h) rfl (wt0 rfl) (x_move rfl) rfl rfl fun a_86 HE87 => ?_
        by_cases hc35 : 0 ≤ ((v : Int) - 1)
        · refine dr_take (i := 3) (ls' := #[true, true, true, true, false, false, false, false, false, false, false, false, false, false]) HE87 HS81 rfl (by kernel_rfl) (by kernel_rfl) (by kernel_rfl) (fun _ _ _ h => h) rfl (wtT HE87 rfl rfl rfl (decide_eq_true hc35)) (x_move rfl) rfl rfl fun a_88 HE89 => ?_
          refine dr_take (i := 4) (ls' := #[true, true, true, true, true, false, false, false, false, false, false, false, false, false]) HE89 HS81 rfl (by kernel_rfl) (by kernel_rfl) (by kernel_rfl) (fun _ _ _ h => h) rfl (wtT HE89 rfl rfl rfl (decide_eq_true hc35)) (x_move rfl) rfl rfl fun a_90 HE91 => ?_
          have ke36 : (v - 1) < (List.replicate ((a0.1).toNat) (0 : Int)).length := by omega
          refine dr_take (i := 5) (ls' := #[true, true, true, true, true, true, false, false, false, false, false, false, false, false]) HE91 HS81 rfl (by kernel_rfl) (by kernel_rfl) (by kernel_rfl) (fun _ _ _ h => h) rfl (wtT HE91 rfl rfl rfl (decide_eq_true hc35)) (x_indexAddr ts_37 rfl rfl rfl (by omega) ke36) rfl rfl fun a_92 HE93 => ?_
          obtain ⟨y37, xy37⟩ : ∃ y_, y_ = (rowZ r v)[(v - 1)]'(by first | exact ke36 | (simp only [List.length_set]; exact ke36) | omega | (simp only [List.length_set]; omega) | (simp; omega)) := ⟨_, rfl⟩
          have iy37 : I64 y37 := by rw [xy37]; exact i_ownI HH80 0 rfl _
          have jy37 := iy37; unfold I64 at jy37
          have hyr : y37 = r[v - 1]?.getD 0 := by rw [xy37]; exact rowZ_at (by omega) (by omega) _
          have hyb : 0 ≤ y37 ∧ y37 ≤ (a0.2.1.toNat : Int) - 1 := by rw [hyr, List.getElem?_eq_getElem (by omega), Option.getD_some]; exact p25_1 _ (List.getElem_mem _)
          refine dr_take (i := 6) (ls' := #[true, true, true, true, true, true, true, false, false, false, false, false, false, false]) HE93 HS81 rfl (by kernel_rfl) (by kernel_rfl) (by kernel_rfl) (fun _ _ _ h => h) rfl (wtT HE93 rfl rfl rfl (decide_eq_true hc35)) (x_load1 tv_2 rfl (c_ownV 0 rfl (by first | exact ke36 | (simp only [List.length_set]; exact ke36) | omega | (simp only [List.length_set]; omega) | (simp; omega)) xy37.symm)) rfl rfl fun a_94 HE95 => ?_
          refine dr_take (i := 7) (ls' := #[true, true, true, true, true, true, true, true, false, false, false, false, false, false]) HE95 HS81 rfl (by kernel_rfl) (by kernel_rfl) (by kernel_rfl) (fun _ _ _ h => h) rfl (wtT HE95 rfl rfl rfl (decide_eq_true hc35)) (x_move rfl) rfl rfl fun a_96 HE97 => ?_
          refine dr_take (i := 8) (ls' := #[true, true, true, true, true, true, true, true, true, false, false, false, false, false]) HE97 HS81 rfl (by kernel_rfl) (by kernel_rfl) (by kernel_rfl) (fun _ _ _ h => h) rfl (wtT HE97 rfl rfl rfl (decide_eq_true hc35)) (x_nilCheck rfl) rfl rfl fun a_98 HE99 => ?_
          refine dr_take (i := 9) (ls' := #[true, true, true, true, true, true, true, true, true, true, false, false, false, false]) HE99 HS81 rfl (by kernel_rfl) (by kernel_rfl) (by kernel_rfl) (fun _ _ _ h => h) rfl (wtT HE99 rfl rfl rfl (decide_eq_true hc35)) (x_fieldAddr fa_55_1 rfl) rfl rfl fun a_100 HE101 => ?_
          refine dr_take (i := 10) (ls' := #[true, true, true, true, true, true, true, true, true, true, true, false, false, false]) HE101 HS81 rfl (by kernel_rfl) (by kernel_rfl) (by kernel_rfl) (fun _ _ _ h => h) rfl (wtT HE101 rfl rfl rfl (decide_eq_true hc35)) (x_load1 tv_2 rfl (c_old (hq0 1 _ rfl))) rfl rfl fun a_102 HE103 => ?_
          refine dr_take (i := 11) (ls' := #[true, true, true, true, true, true, true, true, true, true, true, true, false, false]) HE103 HS81 rfl (by kernel_rfl) (by kernel_rfl) (by kernel_rfl) (fun _ _ _ h => h) rfl (wtT HE103 rfl rfl rfl (decide_eq_true hc35)) (x_sub rfl rfl (by exact ⟨by omega, by omega⟩)) rfl rfl fun a_104 HE105 => ?_
          refine dr_take (i := 12) (ls' := #[true, true, true, true, true, true, true, true, true, true, true, true, true, false]) HE105 HS81 rfl (by kernel_rfl) (by kernel_rfl) (by kernel_rfl) (fun _ _ _ h => h) rfl (wtT HE105 rfl rfl rfl (decide_eq_true hc35)) (x_eql rfl rfl) rfl rfl fun a_106 HE107 => ?_
          refine dr_take (i := 13) (ls' := #[true, true, true, true, true, true, true, true, true, true, true, true, true, true]) HE107 HS81 rfl (by kernel_rfl) (by kernel_rfl) (by kernel_rfl) (fun _ _ _ h => h) rfl (wt0 rfl) (x_pickT rfl (decide_eq_true hc35) rfl) rfl rfl fun a_108 HE109 => ?_
          refine dr_done (by kernel_rfl) ?_
          clear a_75 HE76 HH66 HH79 a_77 HE78 a_82 HE83 a_84 HE85 a_86 HE87 a_88 HE89 a_90 HE91 a_92 HE93 a_94 HE95 a_96 HE97 a_98 HE99 a_100 HE101 a_102 HE103 a_104 HE105 a_106 HE107
          refine nrm ?_
          refine cnd_e HE109 rfl (fun hc38 => ?_) (fun hc38 => ?_)
          · refine wp_skip ?_
            refine nrm ?_
            refine wp_block ?_
            refine wp_seq ?_
            refine rg ?_
            refine pl_x HE109 HH80 (wt0 rfl) (x_move rfl) rfl rfl fun a_110 HE111 => ?_
            refine pl_x HE111 HH80 (wt0 rfl) (x_move rfl) rfl rfl fun a_112 HE113 => ?_
            have ke39 : (v - 1) < (List.replicate ((a0.1).toNat) (0 : Int)).length := by omega
            refine pl_x HE113 HH80 (wt0 rfl) (x_indexAddr ts_37 rfl rfl rfl (by omega) ke39) rfl rfl fun a_114 HE115 => ?_
            refine pl fun K_116 hK117 => ?_
            refine st_storeI 0 HE115 HH80 tv_2 rfl rfl rfl (by first | exact ke39 | (simp only [List.length_set]; exact ke39) | omega | (simp only [List.length_set]; omega) | (simp; omega)) (by exact ⟨by omega, by omega⟩) (wt0 rfl) fun w' HH118 => hK117 _ _ ?_
            refine wpList_nil ?_
            clear a_108 HE109 a_110 HE111 a_112 HE113 HH80 hK117 K_116
            refine nrm ?_
            refine rg ?_
            refine pl_x HE115 HH118 (wt0 rfl) (x_move rfl) rfl rfl fun a_119 HE120 => ?_
            refine pl_x HE120 HH118 (wt0 rfl) (x_sub rfl rfl (by exact ⟨by omega, by omega⟩)) rfl rfl fun a_121 HE122 => ?_
            refine pl_x HE122 HH118 (wt0 rfl) (x_assign rfl) rfl rfl fun a_123 HE124 => ?_
            refine wpList_nil ?_
            clear a_114 HE115 a_119 HE120 a_121 HE122
            refine blk_n ?_
            have E40 : rowZ r ((v - 1)) = ((rowZ r v).set (v - 1) 0) := by
              exact rowZ_step (by omega) (by omega)
            exact nrm ⟨0 + ((v - 1)), (by omega), (v - 1), S_6, rfl, HE124.sub ⟨(lkI rfl (by omega)), rfl, rfl, rfl, rfl, trivial⟩, ((HH118.sel [0, 1, 2] (by decide) rfl).to (by first | rfl | (rw [E40]; done) | (rw [E40]; rfl) | (simp only [E40]; done) | (simp only [E40]; rfl) | (rw [E40]; simp only [List.length_set]; done))), (by first | omega | assumption | (simp; done) | simp_all), (by exact up_step (by omega) p34_1 (by rw [← hyr]; omega))⟩
          · refine wp_exit ?_
            refine (thn_exit (thn_exit (blk_hit ?_)))
            refine nrm ?_
            refine wp_seq ?_
            refine wp_seq ?_
            refine rg ?_
            refine pl_x HE109 HH80 (wt0 rfl) (x_move rfl) rfl rfl fun a_125 HE126 => ?_
            refine pl_x HE126 HH80 (wt0 rfl) (x_lss rfl rfl) rfl rfl fun a_127 HE128 => ?_
            refine wpList_nil ?_
            clear a_108 HE109 a_125 HE126
            refine nrm ?_
            refine cndF HE128 rfl (decide_eq_false (by omega)) ?_
            refine wp_skip ?_
            refine nrm ?_
            refine rg ?_
            refine pl_x HE128 HH80 (wt0 rfl) (x_move rfl) rfl rfl fun a_129 HE130 => ?_
            refine pl_x HE130 HH80 (wt0 rfl) (x_move rfl) rfl rfl fun a_131 HE132 => ?_
            have ke41 : (v - 1) < (List.replicate ((a0.1).toNat) (0 : Int)).length := by omega
            refine pl_x HE132 HH80 (wt0 rfl) (x_indexAddr ts_37 rfl rfl rfl (by omega) ke41) rfl rfl fun a_133 HE134 => ?_
            obtain ⟨y42, xy42⟩ : ∃ y_, y_ = (rowZ r v)[(v - 1)]'(by first | exact ke41 | (simp only [List.length_set]; exact ke41) | omega | (simp only [List.length_set]; omega) | (simp; omega)) := ⟨_, rfl⟩
            have iy42 : I64 y42 := by rw [xy42]; exact i_ownI HH80 0 rfl _
            have jy42 := iy42; unfold I64 at jy42
            have hyr : y42 = r[v - 1]?.getD 0 := by rw [xy42]; exact rowZ_at (by omega) (by omega) _
            have hyb : 0 ≤ y42 ∧ y42 ≤ (a0.2.1.toNat : Int) - 1 := by rw [hyr, List.getElem?_eq_getElem (by omega), Option.getD_some]; exact p25_1 _ (List.getElem_mem _)
            refine pl_x HE134 HH80 (wt0 rfl) (x_load1 tv_2 rfl (c_ownV 0 rfl (by first | exact ke41 | (simp only [List.length_set]; exact ke41) | omega | (simp only [List.length_set]; omega) | (simp; omega)) xy42.symm)) rfl rfl fun a_135 HE136 => ?_
            refine pl_x HE136 HH80 (wt0 rfl) (x_add rfl rfl (by exact ⟨by omega, by omega⟩)) rfl rfl fun a_137 HE138 => ?_
            have ke43 : (v - 1) < (List.replicate ((a0.1).toNat) (0 : Int)).length := by omega
            refine pl_x HE138 HH80 (wt0 rfl) (x_indexAddr ts_37 rfl rfl rfl (by omega) ke43) rfl rfl fun a_139 HE140 => ?_
            refine pl fun K_141 hK142 => ?_
            refine st_storeI 0 HE140 HH80 tv_2 rfl rfl rfl (by first | exact ke43 | (simp only [List.length_set]; exact ke43) | omega | (simp only [List.length_set]; omega) | (simp; omega)) (by exact ⟨by omega, by omega⟩) (wt0 rfl) fun w' HH143 => hK142 _ _ ?_
            refine wpList_nil ?_
            clear a_127 HE128 a_129 HE130 a_131 HE132 a_133 HE134 a_135 HE136 a_137 HE138 HH80 hK142 K_141
            refine blk_n ?_
            have E44 : ((o ++ [r])) = (o ++ [r]) := by
              first | rfl | simp
            have E45 : (((rowZ r v).set (v - 1) (y42 + 1))) = ((rowZ r v).set (v - 1) (y42 + 1)) := by
              first | rfl | simp
            exact nrm ⟨(seqF a0.2.1.toNat (((rowZ r v).set (v - 1) (y42 + 1)))).length, (by have q := congrArg List.length (seqF_step (S := a0.2.1.toNat) (v := v) (r := r) (y := y42) (by omega) (by omega) p25_1 hyr (by omega) p34_1).1; simp only [List.length_cons] at q; omega), ((rowZ r v).set (v - 1) (y42 + 1)), (o ++ [r]), A30, c31, S32, S_6, rfl, HE140.sub ⟨(by rw [E44]; rfl), rfl, rfl, rfl, trivial⟩, ((HH143.sel [1, 0] (by decide) rfl).to (by first | rfl | (rw [E44, E45]; done) | (rw [E44, E45]; rfl) | (simp only [E44, E45]; done) | (simp only [E44, E45]; rfl) | (rw [E44, E45]; simp only [List.length_set]; done))), (by rw [List.length_set, rowZ_len _ (by omega)]; assumption), (by exact (seqF_step (S := a0.2.1.toNat) (v := v) (r := r) (y := y42) (by omega) (by omega) p25_1 hyr (by omega) p34_1).2), (by rw [p25_2, (seqF_step (S := a0.2.1.toNat) (v := v) (r := r) (y := y42) (by omega) (by omega) p25_1 hyr (by omega) p34_1).1, goodL_cons]; first | (rw [if_neg (hng.1 (by omega))]; simp [goodL]; done) | (rw [if_pos (Classical.not_not.1 fun h => absurd (hng.2 h) (by omega))]; simp [goodL]; done)), (by have q := congrArg List.length (seqF_step (S := a0.2.1.toNat) (v := v) (r := r) (y := y42) (by omega) (by omega) p25_1 hyr (by omega) p34_1).1; simp only [List.length_cons] at q; first | omega | (simp only [List.length_append, List.length_cons, List.length_nil]; omega))⟩
        · refine dr_takeNo (i := 3) (ls' := #[true, true, true, true, false, false, false, false, false, false, false, false, false, false]) HE87 HS81 rfl (by kernel_rfl) (by kernel_rfl) (by kernel_rfl) (fun _ _ _ h => h) rfl (wtF HE87 rfl rfl rfl (decide_eq_false hc35)) rfl rfl fun a_144 HE145 => ?_
          refine dr_takeNo (i := 4) (ls' := #[true, true, true, true, true, false, false, false, false, false, false, false, false, false]) HE145 HS81 rfl (by kernel_rfl) (by kernel_rfl) (by kernel_rfl) (fun _ _ _ h => h) rfl (wtF HE145 rfl rfl rfl (decide_eq_false hc35)) rfl rfl fun a_146 HE147 => ?_
          refine dr_takeNo (i := 5) (ls' := #[true, true, true, true, true, true, false, false, false, false, false, false, false, false]) HE147 HS81 rfl (by kernel_rfl) (by kernel_rfl) (by kernel_rfl) (fun _ _ _ h => h) rfl (wtF HE147 rfl rfl rfl (decide_eq_false hc35)) rfl rfl fun a_148 HE149 => ?_
          refine dr_takeNo (i := 6) (ls' := #[true, true, true, true, true, true, true, false, false, false, false, false, false, false]) HE149 HS81 rfl (by kernel_rfl) (by kernel_rfl) (by kernel_rfl) (fun _ _ _ h => h) rfl (wtF HE149 rfl rfl rfl (decide_eq_false hc35)) rfl rfl fun a_150 HE151 => ?_
          refine dr_takeNo (i := 7) (ls' := #[true, true, true, true, true, true, true, true, false, false, false, false, false, false]) HE151 HS81 rfl (by kernel_rfl) (by kernel_rfl) (by kernel_rfl) (fun _ _ _ h => h) rfl (wtF HE151 rfl rfl rfl (decide_eq_false hc35)) rfl rfl fun a_152 HE153 => ?_
          refine dr_takeNo (i := 8) (ls' := #[true, true, true, true, true, true, true, true, true, false, false, false, false, false]) HE153 HS81 rfl (by kernel_rfl) (by kernel_rfl) (by kernel_rfl) (fun _ _ _ h => h) rfl (wtF HE153 rfl rfl rfl (decide_eq_false hc35)) rfl rfl fun a_154 HE155 => ?_
          refine dr_takeNo (i := 9) (ls' := #[true, true, true, true, true, true, true, true, true, true, false, false, false, false]) HE155 HS81 rfl (by kernel_rfl) (by kernel_rfl) (by kernel_rfl) (fun _ _ _ h => h) rfl (wtF HE155 rfl rfl rfl (decide_eq_false hc35)) rfl rfl fun a_156 HE157 => ?_
          refine dr_takeNo (i := 10) (ls' := #[true, true, true, true, true, true, true, true, true, true, true, false, false, false]) HE157 HS81 rfl (by kernel_rfl) (by kernel_rfl) (by kernel_rfl) (fun _ _ _ h => h) rfl (wtF HE157 rfl rfl rfl (decide_eq_false hc35)) rfl rfl fun a_158 HE159 => ?_
          refine dr_takeNo (i := 11) (ls' := #[true, true, true, true, true, true, true, true, true, true, true, true, false, false]) HE159 HS81 rfl (by kernel_rfl) (by kernel_rfl) (by kernel_rfl) (fun _ _ _ h => h) rfl (wtF HE159 rfl rfl rfl (decide_eq_false hc35)) rfl rfl fun a_160 HE161 => ?_
          refine dr_takeNo (i := 12) (ls' := #[true, true, true, true, true, true, true, true, true, true, true, true, true, false]) HE161 HS81 rfl (by kernel_rfl) (by kernel_rfl) (by kernel_rfl) (fun _ _ _ h => h) rfl (wtF HE161 rfl rfl rfl (decide_eq_false hc35)) rfl rfl fun a_162 HE163 => ?_
          refine dr_take (i := 13) (ls' := #[true, true, true, true, true, true, true, true, true, true, true, true, true, true]) HE163 HS81 rfl (by kernel_rfl) (by kernel_rfl) (by kernel_rfl) (fun _ _ _ h => h) rfl (wt0 rfl) (x_pickF rfl (decide_eq_false hc35) rfl) rfl rfl fun a_164 HE165 => ?_
          refine dr_done (by kernel_rfl) ?_
          clear a_75 HE76 HH66 HH79 a_77 HE78 a_82 HE83 a_84 HE85 a_86 HE87 a_144 HE145 a_146 HE147 a_148 HE149 a_150 HE151 a_152 HE153 a_154 HE155 a_156 HE157 a_158 HE159 a_160 HE161 a_162 HE163
          refine nrm ?_
          refine cndF HE165 rfl rfl ?_
          refine wp_exit ?_
          refine (thn_exit (thn_exit (blk_hit ?_)))
          refine nrm ?_
          refine wp_seq ?_
          refine wp_seq ?_
          refine rg ?_
          refine pl_x HE165 HH80 (wt0 rfl) (x_move rfl) rfl rfl fun a_166 HE167 => ?_
          refine pl_x HE167 HH80 (wt0 rfl) (x_lss rfl rfl) rfl rfl fun a_168 HE169 => ?_
          refine wpList_nil ?_
          clear a_164 HE165 a_166 HE167
          refine nrm ?_
          refine cndT HE169 rfl (decide_eq_true (by omega)) ?_
          refine wp_seq ?_
          refine rg ?_
          refine pl_x HE169 HH80 (wt0 rfl) (x_move rfl) rfl rfl fun a_170 HE171 => ?_
          refine pl_x HE171 HH80 (wt0 rfl) (x_assign rfl) rfl rfl fun a_172 HE173 => ?_
          refine wpList_nil ?_
          clear a_168 HE169 a_170 HE171
          refine nrm ?_
          refine wp_ret ?_
          refine (thn_ret (blk_ret (thn_ret (blk_ret ?_))))
          refine ret1 HE173 rfl (rv_tmp rfl) ?_
          have HH174 := HH80.sel [1, 0, 2] (by decide) rfl
          have HH175 := HH174.vecSo
          have hF : (hReads a0 a1) = (o ++ [r]) := by
            rw [p25_2, seqF_stop (by omega) (fun j h1 h2 => p34_1 j (by omega) h2), goodL_cons]; first | (rw [if_neg (hng.1 (by omega))]; simp [goodL]; done) | (rw [if_pos (Classical.not_not.1 fun h => absurd (hng.2 h) (by omega))]; simp [goodL]; done)
          exact ⟨A30, c31, by first | (rw [hF] <;> rfl) | rfl | (rw [hF]; simp only [Ending.returned.injEq, Value.slice.injEq, true_and, and_true]; first | omega | (simp; done)) | (rw [hF]; simp; omega), by rw [hF]; exact (HH175.so (i := 0) rfl), HH175.below⟩
    · refine wp_skip ?_
      refine nrm ?_
      refine wp_seq ?_
      refine rg ?_
      refine pl_x HE46 HH42 (wt0 rfl) (x_move rfl) rfl rfl fun a_176 HE177 => ?_
      refine pl_x HE177 HH42 (wt0 rfl) (x_len Try.underlying37 rfl) rfl rfl fun a_178 HE179 => ?_
      refine pl_x HE179 HH42 (wt0 rfl) (x_sub rfl rfl (by exact ⟨by omega, by omega⟩)) rfl rfl fun a_180 HE181 => ?_
      refine pl_x HE181 HH42 (wt0 rfl) (x_assign rfl) rfl rfl fun a_182 HE183 => ?_
      refine wpList_nil ?_
      clear a_45 HE46 a_176 HE177 a_178 HE179 a_180 HE181
      refine nrm ?_
      refine wp_seq ?_
      refine wp_block ?_
      refine lp (fun m a w' => ∃ (v : Nat) (S_6 : Nat → Prop), m = 0 + v ∧ Env 55 [(7, .int .i64 ((v : Int) - 1)), (0, .pointer (some ⟨p0, o0, none⟩)), (1, .int .i64 (a1)), (5, .slice A_5 ((List.length o)) c_5), (6, .slice (some ⟨q22, 0, none⟩) ((List.replicate ((a0.1).toNat) (0 : Int)).length) ((a0.1).toNat))] a ∧ Held Nob w [rSo eInt S_6 (some ⟨q22, 0, none⟩) ((a0.1).toNat) (rowZ r v), rVec (eSl eInt) 37 S_5 A_5 c_5 o] w' ∧ (v ≤ r.length) ∧ (∀ j, v ≤ j → j < r.length → r[j]?.getD 0 = (a0.2.1.toNat : Int) - 1)) (0 + (r.length)) ?_ ?_
      · have E46 : rowZ r (r.length) = r := by
          exact rowZ_all r
        exact ⟨r.length, S_6, rfl, HE183.sub ⟨(lkI rfl (by omega)), rfl, rfl, rfl, rfl, trivial⟩, ((HH42.sel [1, 0] (by decide) rfl).to (by first | rfl | (rw [E46]; done) | (rw [E46]; rfl) | (simp only [E46]; done) | (simp only [E46]; rfl) | (rw [E46]; simp only [List.length_set]; done))), (by first | omega | assumption | (simp; done) | simp_all), (by intro j h1 h2; omega)⟩
      · rintro m a_184 w' ⟨v, S_6, rfl, HE185, HH186, p47_0, p47_1⟩
        have hzl := rowZ_len r (v := v) (by omega)
        refine wp_seq ?_
        refine wp_seq ?_
        refine dr_start (Held Nob w [rSo eInt S_6 (some ⟨q22, 0, none⟩) ((a0.1).toNat) (rowZ r v), rVec (eSl eInt) 37 S_5 A_5 c_5 o]) 14 #[false, false, false, false, false, false, false, false, false, false, false, false, false, false] hmix rfl rfl HH186 (fun _ h => h.sel [0, 1] (by decide) rfl) fun w' HH187 => ?_
        have HS188 := HH187
        refine dr_take (i := 0) (ls' := #[true, false, false, false, false, false, false, false, false, false, false, false, false, false]) HE185 HS188 rfl (by kernel_rfl) (by kernel_rfl) (by kernel_rfl) (fun _ _ _ h => h) rfl (wt0 rfl) (x_move rfl) rfl rfl fun a_189 HE190 => ?_
        refine dr_take (i := 1) (ls' := #[true, true, false, false, false, false, false, false, false, false, false, false, false, false]) HE190 HS188 rfl (by kernel_rfl) (by kernel_rfl) (by kernel_rfl) (fun _ _ _ h => h) rfl (wt0 rfl) (x_geq rfl rfl) rfl rfl fun a_191 HE192 => ?_
        refine dr_take (i := 2) (ls' := #[true, true, true, false, false, false, false, false, false, false, false, false, false, false]) HE192 HS188 rfl (by kernel_rfl) (by kernel_rfl) (by kernel_rfl) (fun _ _ _ h => h) rfl (wt0 rfl) (x_move rfl) rfl rfl fun a_193 HE194 => ?_
        by_cases hc48 : 0 ≤ ((v : Int) - 1)
        · refine dr_take (i := 3) (ls' := #[true, true, true, true, false, false, false, false, false, false, false, false, false, false]) HE194 HS188 rfl (by kernel_rfl) (by kernel_rfl) (by kernel_rfl) (fun _ _ _ h => h) rfl (wtT HE194 rfl rfl rfl (decide_eq_true hc48)) (x_move rfl) rfl rfl fun a_195 HE196 => ?_
          refine dr_take (i := 4) (ls' := #[true, true, true, true, true, false, false, false, false, false, false, false, false, false]) HE196 HS188 rfl (by kernel_rfl) (by kernel_rfl) (by kernel_rfl) (fun _ _ _ h => h) rfl (wtT HE196 rfl rfl rfl (decide_eq_true hc48)) (x_move rfl) rfl rfl fun a_197 HE198 => ?_
          have ke49 : (v - 1) < (List.replicate ((a0.1).toNat) (0 : Int)).length := by omega
          refine dr_take (i := 5) (ls' := #[true, true, true, true, true, true, false, false, false, false, false, false, false, false]) HE198 HS188 rfl (by kernel_rfl) (by kernel_rfl) (by kernel_rfl) (fun _ _ _ h => h) rfl (wtT HE198 rfl rfl rfl (decide_eq_true hc48)) (x_indexAddr ts_37 rfl rfl rfl (by omega) ke49) rfl rfl fun a_199 HE200 => ?_
          obtain ⟨y50, xy50⟩ : ∃ y_, y_ = (rowZ r v)[(v - 1)]'(by first | exact ke49 | (simp only [List.length_set]; exact ke49) | omega | (simp only [List.length_set]; omega) | (simp; omega)) := ⟨_, rfl⟩
          have iy50 : I64 y50 := by rw [xy50]; exact i_ownI HH187 0 rfl _
          have jy50 := iy50; unfold I64 at jy50
          have hyr : y50 = r[v - 1]?.getD 0 := by rw [xy50]; exact rowZ_at (by omega) (by omega) _
          have hyb : 0 ≤ y50 ∧ y50 ≤ (a0.2.1.toNat : Int) - 1 := by rw [hyr, List.getElem?_eq_getElem (by omega), Option.getD_some]; exact p25_1 _ (List.getElem_mem _)
          refine dr_take (i := 6) (ls' := #[true, true, true, true, true, true, true, false, false, false, false, false, false, false]) HE200 HS188 rfl (by kernel_rfl) (by kernel_rfl) (by kernel_rfl) (fun _ _ _ h => h) rfl (wtT HE200 rfl rfl rfl (decide_eq_true hc48)) (x_load1 tv_2 rfl (c_ownV 0 rfl (by first | exact ke49 | (simp only [List.length_set]; exact ke49) | omega | (simp only [List.length_set]; omega) | (simp; omega)) xy50.symm)) rfl rfl fun a_201 HE202 => ?_
          refine dr_take (i := 7) (ls' := #[true, true, true, true, true, true, true, true, false, false, false, false, false, false]) HE202 HS188 rfl (by kernel_rfl) (by kernel_rfl) (by kernel_rfl) (fun _ _ _ h => h) rfl (wtT HE202 rfl rfl rfl (decide_eq_true hc48)) (x_move rfl) rfl rfl fun a_203 HE204 => ?_
          refine dr_take (i := 8) (ls' := #[true, true, true, true, true, true, true, true, true, false, false, false, false, false]) HE204 HS188 rfl (by kernel_rfl) (by kernel_rfl) (by kernel_rfl) (fun _ _ _ h => h) rfl (wtT HE204 rfl rfl rfl (decide_eq_true hc48)) (x_nilCheck rfl) rfl rfl fun a_205 HE206 => ?_
          refine dr_take (i := 9) (ls' := #[true, true, true, true, true, true, true, true, true, true, false, false, false, false]) HE206 HS188 rfl (by kernel_rfl) (by kernel_rfl) (by kernel_rfl) (fun _ _ _ h => h) rfl (wtT HE206 rfl rfl rfl (decide_eq_true hc48)) (x_fieldAddr fa_55_1 rfl) rfl rfl fun a_207 HE208 => ?_
          refine dr_take (i := 10) (ls' := #[true, true, true, true, true, true, true, true, true, true, true, false, false, false]) HE208 HS188 rfl (by kernel_rfl) (by kernel_rfl) (by kernel_rfl) (fun _ _ _ h => h) rfl (wtT HE208 rfl rfl rfl (decide_eq_true hc48)) (x_load1 tv_2 rfl (c_old (hq0 1 _ rfl))) rfl rfl fun a_209 HE210 => ?_
          refine dr_take (i := 11) (ls' := #[true, true, true, true, true, true, true, true, true, true, true, true, false, false]) HE210 HS188 rfl (by kernel_rfl) (by kernel_rfl) (by kernel_rfl) (fun _ _ _ h => h) rfl (wtT HE210 rfl rfl rfl (decide_eq_true hc48)) (x_sub rfl rfl (by exact ⟨by omega, by omega⟩)) rfl rfl fun a_211 HE212 => ?_
          refine dr_take (i := 12) (ls' := #[true, true, true, true, true, true, true, true, true, true, true, true, true, false]) HE212 HS188 rfl (by kernel_rfl) (by kernel_rfl) (by kernel_rfl) (fun _ _ _ h => h) rfl (wtT HE212 rfl rfl rfl (decide_eq_true hc48)) (x_eql rfl rfl) rfl rfl fun a_213 HE214 => ?_
          refine dr_take (i := 13) (ls' := #[true, true, true, true, true, true, true, true, true, true, true, true, true, true]) HE214 HS188 rfl (by kernel_rfl) (by kernel_rfl) (by kernel_rfl) (fun _ _ _ h => h) rfl (wt0 rfl) (x_pickT rfl (decide_eq_true hc48) rfl) rfl rfl fun a_215 HE216 => ?_
          refine dr_done (by kernel_rfl) ?_
          clear a_182 HE183 HH42 HH186 a_184 HE185 a_189 HE190 a_191 HE192 a_193 HE194 a_195 HE196 a_197 HE198 a_199 HE200 a_201 HE202 a_203 HE204 a_205 HE206 a_207 HE208 a_209 HE210 a_211 HE212 a_213 HE214
          refine nrm ?_
          refine cnd_e HE216 rfl (fun hc51 => ?_) (fun hc51 => ?_)
          · refine wp_skip ?_
            refine nrm ?_
            refine wp_block ?_
            refine wp_seq ?_
            refine rg ?_
            refine pl_x HE216 HH187 (wt0 rfl) (x_move rfl) rfl rfl fun a_217 HE218 => ?_
            refine pl_x HE218 HH187 (wt0 rfl) (x_move rfl) rfl rfl fun a_219 HE220 => ?_
            have ke52 : (v - 1) < (List.replicate ((a0.1).toNat) (0 : Int)).length := by omega
            refine pl_x HE220 HH187 (wt0 rfl) (x_indexAddr ts_37 rfl rfl rfl (by omega) ke52) rfl rfl fun a_221 HE222 => ?_
            refine pl fun K_223 hK224 => ?_
            refine st_storeI 0 HE222 HH187 tv_2 rfl rfl rfl (by first | exact ke52 | (simp only [List.length_set]; exact ke52) | omega | (simp only [List.length_set]; omega) | (simp; omega)) (by exact ⟨by omega, by omega⟩) (wt0 rfl) fun w' HH225 => hK224 _ _ ?_
            refine wpList_nil ?_
            clear a_215 HE216 a_217 HE218 a_219 HE220 HH187 hK224 K_223
            refine nrm ?_
            refine rg ?_
            refine pl_x HE222 HH225 (wt0 rfl) (x_move rfl) rfl rfl fun a_226 HE227 => ?_
            refine pl_x HE227 HH225 (wt0 rfl) (x_sub rfl rfl (by exact ⟨by omega, by omega⟩)) rfl rfl fun a_228 HE229 => ?_
            refine pl_x HE229 HH225 (wt0 rfl) (x_assign rfl) rfl rfl fun a_230 HE231 => ?_
            refine wpList_nil ?_
            clear a_221 HE222 a_226 HE227 a_228 HE229
            refine blk_n ?_
            have E53 : rowZ r ((v - 1)) = ((rowZ r v).set (v - 1) 0) := by
              exact rowZ_step (by omega) (by omega)
            exact nrm ⟨0 + ((v - 1)), (by omega), (v - 1), S_6, rfl, HE231.sub ⟨(lkI rfl (by omega)), rfl, rfl, rfl, rfl, trivial⟩, ((HH225.sel [0, 1] (by decide) rfl).to (by first | rfl | (rw [E53]; done) | (rw [E53]; rfl) | (simp only [E53]; done) | (simp only [E53]; rfl) | (rw [E53]; simp only [List.length_set]; done))), (by first | omega | assumption | (simp; done) | simp_all), (by exact up_step (by omega) p47_1 (by rw [← hyr]; omega))⟩
          · refine wp_exit ?_
            refine (thn_exit (thn_exit (blk_hit ?_)))
            refine nrm ?_
            refine wp_seq ?_
            refine wp_seq ?_
            refine rg ?_
            refine pl_x HE216 HH187 (wt0 rfl) (x_move rfl) rfl rfl fun a_232 HE233 => ?_
            refine pl_x HE233 HH187 (wt0 rfl) (x_lss rfl rfl) rfl rfl fun a_234 HE235 => ?_
            refine wpList_nil ?_
            clear a_215 HE216 a_232 HE233
            refine nrm ?_
            refine cndF HE235 rfl (decide_eq_false (by omega)) ?_
            refine wp_skip ?_
            refine nrm ?_
            refine rg ?_
            refine pl_x HE235 HH187 (wt0 rfl) (x_move rfl) rfl rfl fun a_236 HE237 => ?_
            refine pl_x HE237 HH187 (wt0 rfl) (x_move rfl) rfl rfl fun a_238 HE239 => ?_
            have ke54 : (v - 1) < (List.replicate ((a0.1).toNat) (0 : Int)).length := by omega
            refine pl_x HE239 HH187 (wt0 rfl) (x_indexAddr ts_37 rfl rfl rfl (by omega) ke54) rfl rfl fun a_240 HE241 => ?_
            obtain ⟨y55, xy55⟩ : ∃ y_, y_ = (rowZ r v)[(v - 1)]'(by first | exact ke54 | (simp only [List.length_set]; exact ke54) | omega | (simp only [List.length_set]; omega) | (simp; omega)) := ⟨_, rfl⟩
            have iy55 : I64 y55 := by rw [xy55]; exact i_ownI HH187 0 rfl _
            have jy55 := iy55; unfold I64 at jy55
            have hyr : y55 = r[v - 1]?.getD 0 := by rw [xy55]; exact rowZ_at (by omega) (by omega) _
            have hyb : 0 ≤ y55 ∧ y55 ≤ (a0.2.1.toNat : Int) - 1 := by rw [hyr, List.getElem?_eq_getElem (by omega), Option.getD_some]; exact p25_1 _ (List.getElem_mem _)
            refine pl_x HE241 HH187 (wt0 rfl) (x_load1 tv_2 rfl (c_ownV 0 rfl (by first | exact ke54 | (simp only [List.length_set]; exact ke54) | omega | (simp only [List.length_set]; omega) | (simp; omega)) xy55.symm)) rfl rfl fun a_242 HE243 => ?_
            refine pl_x HE243 HH187 (wt0 rfl) (x_add rfl rfl (by exact ⟨by omega, by omega⟩)) rfl rfl fun a_244 HE245 => ?_
            have ke56 : (v - 1) < (List.replicate ((a0.1).toNat) (0 : Int)).length := by omega
            refine pl_x HE245 HH187 (wt0 rfl) (x_indexAddr ts_37 rfl rfl rfl (by omega) ke56) rfl rfl fun a_246 HE247 => ?_
            refine pl fun K_248 hK249 => ?_
            refine st_storeI 0 HE247 HH187 tv_2 rfl rfl rfl (by first | exact ke56 | (simp only [List.length_set]; exact ke56) | omega | (simp only [List.length_set]; omega) | (simp; omega)) (by exact ⟨by omega, by omega⟩) (wt0 rfl) fun w' HH250 => hK249 _ _ ?_
            refine wpList_nil ?_
            clear a_234 HE235 a_236 HE237 a_238 HE239 a_240 HE241 a_242 HE243 a_244 HE245 HH187 hK249 K_248
            refine blk_n ?_
            have E57 : (((rowZ r v).set (v - 1) (y55 + 1))) = ((rowZ r v).set (v - 1) (y55 + 1)) := by
              first | rfl | simp
            exact nrm ⟨(seqF a0.2.1.toNat (((rowZ r v).set (v - 1) (y55 + 1)))).length, (by have q := congrArg List.length (seqF_step (S := a0.2.1.toNat) (v := v) (r := r) (y := y55) (by omega) (by omega) p25_1 hyr (by omega) p47_1).1; simp only [List.length_cons] at q; omega), ((rowZ r v).set (v - 1) (y55 + 1)), o, A_5, c_5, S_5, S_6, rfl, HE247.sub ⟨rfl, rfl, rfl, rfl, trivial⟩, ((HH250.sel [1, 0] (by decide) rfl).to (by first | rfl | (rw [E57]; done) | (rw [E57]; rfl) | (simp only [E57]; done) | (simp only [E57]; rfl) | (rw [E57]; simp only [List.length_set]; done))), (by rw [List.length_set, rowZ_len _ (by omega)]; assumption), (by exact (seqF_step (S := a0.2.1.toNat) (v := v) (r := r) (y := y55) (by omega) (by omega) p25_1 hyr (by omega) p47_1).2), (by rw [p25_2, (seqF_step (S := a0.2.1.toNat) (v := v) (r := r) (y := y55) (by omega) (by omega) p25_1 hyr (by omega) p47_1).1, goodL_cons]; first | (rw [if_neg (hng.1 (by omega))]; simp [goodL]; done) | (rw [if_pos (Classical.not_not.1 fun h => absurd (hng.2 h) (by omega))]; simp [goodL]; done)), (by have q := congrArg List.length (seqF_step (S := a0.2.1.toNat) (v := v) (r := r) (y := y55) (by omega) (by omega) p25_1 hyr (by omega) p47_1).1; simp only [List.length_cons] at q; first | omega | (simp only [List.length_append, List.length_cons, List.length_nil]; omega))⟩
        · refine dr_takeNo (i := 3) (ls' := #[true, true, true, true, false, false, false, false, false, false, false, false, false, false]) HE194 HS188 rfl (by kernel_rfl) (by kernel_rfl) (by kernel_rfl) (fun _ _ _ h => h) rfl (wtF HE194 rfl rfl rfl (decide_eq_false hc48)) rfl rfl fun a_251 HE252 => ?_
          refine dr_takeNo (i := 4) (ls' := #[true, true, true, true, true, false, false, false, false, false, false, false, false, false]) HE252 HS188 rfl (by kernel_rfl) (by kernel_rfl) (by kernel_rfl) (fun _ _ _ h => h) rfl (wtF HE252 rfl rfl rfl (decide_eq_false hc48)) rfl rfl fun a_253 HE254 => ?_
          refine dr_takeNo (i := 5) (ls' := #[true, true, true, true, true, true, false, false, false, false, false, false, false, false]) HE254 HS188 rfl (by kernel_rfl) (by kernel_rfl) (by kernel_rfl) (fun _ _ _ h => h) rfl (wtF HE254 rfl rfl rfl (decide_eq_false hc48)) rfl rfl fun a_255 HE256 => ?_
          refine dr_takeNo (i := 6) (ls' := #[true, true, true, true, true, true, true, false, false, false, false, false, false, false]) HE256 HS188 rfl (by kernel_rfl) (by kernel_rfl) (by kernel_rfl) (fun _ _ _ h => h) rfl (wtF HE256 rfl rfl rfl (decide_eq_false hc48)) rfl rfl fun a_257 HE258 => ?_
          refine dr_takeNo (i := 7) (ls' := #[true, true, true, true, true, true, true, true, false, false, false, false, false, false]) HE258 HS188 rfl (by kernel_rfl) (by kernel_rfl) (by kernel_rfl) (fun _ _ _ h => h) rfl (wtF HE258 rfl rfl rfl (decide_eq_false hc48)) rfl rfl fun a_259 HE260 => ?_
          refine dr_takeNo (i := 8) (ls' := #[true, true, true, true, true, true, true, true, true, false, false, false, false, false]) HE260 HS188 rfl (by kernel_rfl) (by kernel_rfl) (by kernel_rfl) (fun _ _ _ h => h) rfl (wtF HE260 rfl rfl rfl (decide_eq_false hc48)) rfl rfl fun a_261 HE262 => ?_
          refine dr_takeNo (i := 9) (ls' := #[true, true, true, true, true, true, true, true, true, true, false, false, false, false]) HE262 HS188 rfl (by kernel_rfl) (by kernel_rfl) (by kernel_rfl) (fun _ _ _ h => h) rfl (wtF HE262 rfl rfl rfl (decide_eq_false hc48)) rfl rfl fun a_263 HE264 => ?_
          refine dr_takeNo (i := 10) (ls' := #[true, true, true, true, true, true, true, true, true, true, true, false, false, false]) HE264 HS188 rfl (by kernel_rfl) (by kernel_rfl) (by kernel_rfl) (fun _ _ _ h => h) rfl (wtF HE264 rfl rfl rfl (decide_eq_false hc48)) rfl rfl fun a_265 HE266 => ?_
          refine dr_takeNo (i := 11) (ls' := #[true, true, true, true, true, true, true, true, true, true, true, true, false, false]) HE266 HS188 rfl (by kernel_rfl) (by kernel_rfl) (by kernel_rfl) (fun _ _ _ h => h) rfl (wtF HE266 rfl rfl rfl (decide_eq_false hc48)) rfl rfl fun a_267 HE268 => ?_
          refine dr_takeNo (i := 12) (ls' := #[true, true, true, true, true, true, true, true, true, true, true, true, true, false]) HE268 HS188 rfl (by kernel_rfl) (by kernel_rfl) (by kernel_rfl) (fun _ _ _ h => h) rfl (wtF HE268 rfl rfl rfl (decide_eq_false hc48)) rfl rfl fun a_269 HE270 => ?_
          refine dr_take (i := 13) (ls' := #[true, true, true, true, true, true, true, true, true, true, true, true, true, true]) HE270 HS188 rfl (by kernel_rfl) (by kernel_rfl) (by kernel_rfl) (fun _ _ _ h => h) rfl (wt0 rfl) (x_pickF rfl (decide_eq_false hc48) rfl) rfl rfl fun a_271 HE272 => ?_
          refine dr_done (by kernel_rfl) ?_
          clear a_182 HE183 HH42 HH186 a_184 HE185 a_189 HE190 a_191 HE192 a_193 HE194 a_251 HE252 a_253 HE254 a_255 HE256 a_257 HE258 a_259 HE260 a_261 HE262 a_263 HE264 a_265 HE266 a_267 HE268 a_269 HE270
          refine nrm ?_
          refine cndF HE272 rfl rfl ?_
          refine wp_exit ?_
          refine (thn_exit (thn_exit (blk_hit ?_)))
          refine nrm ?_
          refine wp_seq ?_
          refine wp_seq ?_
          refine rg ?_
          refine pl_x HE272 HH187 (wt0 rfl) (x_move rfl) rfl rfl fun a_273 HE274 => ?_
          refine pl_x HE274 HH187 (wt0 rfl) (x_lss rfl rfl) rfl rfl fun a_275 HE276 => ?_
          refine wpList_nil ?_
          clear a_271 HE272 a_273 HE274
          refine nrm ?_
          refine cndT HE276 rfl (decide_eq_true (by omega)) ?_
          refine wp_seq ?_
          refine rg ?_
          refine pl_x HE276 HH187 (wt0 rfl) (x_move rfl) rfl rfl fun a_277 HE278 => ?_
          refine pl_x HE278 HH187 (wt0 rfl) (x_assign rfl) rfl rfl fun a_279 HE280 => ?_
          refine wpList_nil ?_
          clear a_275 HE276 a_277 HE278
          refine nrm ?_
          refine wp_ret ?_
          refine (thn_ret (blk_ret (thn_ret (blk_ret ?_))))
          refine ret1 HE280 rfl (rv_tmp rfl) ?_
          have HH281 := HH187.sel [1, 0] (by decide) rfl
          have HH282 := HH281.vecSo
          have hF : (hReads a0 a1) = o := by
            rw [p25_2, seqF_stop (by omega) (fun j h1 h2 => p47_1 j (by omega) h2), goodL_cons]; first | (rw [if_neg (hng.1 (by omega))]; simp [goodL]; done) | (rw [if_pos (Classical.not_not.1 fun h => absurd (hng.2 h) (by omega))]; simp [goodL]; done)
          exact ⟨A_5, c_5, by first | (rw [hF] <;> rfl) | rfl | (rw [hF]; simp only [Ending.returned.injEq, Value.slice.injEq, true_and, and_true]; first | omega | (simp; done)) | (rw [hF]; simp; omega), by rw [hF]; exact (HH282.so (i := 0) rfl), HH282.below⟩

set_option maxRecDepth 100000 in
set_option maxHeartbeats 4000000 in
theorem spec_HaltingReads (es0 : List Value) (a0 : tMulti) (a1 : Int) (w : World) (h0 : eMulti.R w (Old w) es0 a0) :
    Calls Try.prog 27 #[.agg es0.toArray, .int .i64 a1] w fun e w' => ∃ (A0' : Option Addr) (c0' : Nat), e = .returned (.tuple #[.slice A0' (haltReads a0 a1).1.length c0', .int .i64 (haltReads a0 a1).2]) ∧ So (eSl eInt) w' (Fr w w') A0' c0' (haltReads a0 a1).1 ∧ Below w.heap.size w w' := by
  have H0 := h0
  obtain ⟨Az0_3, cz0_3, rfl, gz0_0, gz0_1, gz0_2, gz0_3⟩ := shape_Multi h0
  have jz0_0 := gz0_0; unfold I64 at jz0_0
  have jz0_1 := gz0_1; unfold I64 at jz0_1
  have jz0_2 := gz0_2; unfold I64 at jz0_2
  have lz0_3 := gz0_3.len
  have HH1 := Held.start Nob w
  refine enter (n := 16) Try.func27 rfl rfl rfl fun a_2 HE3 => ?_
  refine wp_seq ?_
  refine rg ?_
  refine pl fun K_4 hK5 => ?_
  refine st_box (cs := [.int .i64 (a0.1), .int .i64 (a0.2.1), .int .i64 (a0.2.2.1), .slice Az0_3 (a0.2.2.2.length) cz0_3]) HE3 HH1 rfl rfl (wt0 rfl) rfl fun q21 a_6 w' HE7 HH8 => hK5 _ _ ?_
  refine pl_x HE7 HH8 (wt0 rfl) (x_assign rfl) rfl rfl fun a_9 HE10 => ?_
  refine pl_x HE10 HH8 (wt0 rfl) (x_assign rfl) rfl rfl fun a_11 HE12 => ?_
  refine wpList_nil ?_
  clear a_2 HE3 HH1 a_6 HE7 a_9 HE10 hK5 K_4
  refine nrm ?_
  refine wp_seq ?_
  refine wp_seq ?_
  refine rg ?_
  refine pl fun K_13 hK14 => ?_
  refine st_call HE12 (wt0 rfl) rfl rfl rfl en_60 rfl rfl (spec_l06Is _ _ _ a0 _ (HH8.oldR H0) (c_blkN 0 rfl _ HH8)) fun e w' hr => ?_
  obtain ⟨rfl, hbr22⟩ := hr
  have HH15 := HH8.on hbr22
  refine ⟨_, rfl, fun a_16 HE17 => hK14 _ _ ?_⟩
  refine pl_x HE17 HH15 (wt0 rfl) (x_not rfl) rfl rfl fun a_18 HE19 => ?_
  refine wpList_nil ?_
  clear HH8 a_11 HE12 a_16 HE17 hK14 K_13
  refine nrm ?_
  refine cnd_nb HE19 rfl (fun hc23 => ?_) (fun hc23 => ?_)
  · refine wp_seq ?_
    refine rg ?_
    refine pl_x HE19 HH15 (wt0 rfl) (x_assign rfl) rfl rfl fun a_20 HE21 => ?_
    refine pl_x HE21 HH15 (wt0 rfl) (x_assign rfl) rfl rfl fun a_22 HE23 => ?_
    refine wpList_nil ?_
    clear a_18 HE19 a_20 HE21
    refine nrm ?_
    refine wp_ret ?_
    refine (thn_ret ?_)
    refine ret2 HE23 rfl (rv_tmp rfl) (rv_tmp rfl) ?_
    have hF : (haltReads a0 a1) = ([], 1) := by
      first | (simp [haltReads, hc23]; done) | (unfold haltReads; rw [if_pos hvm, if_pos (by assumption)])
    exact ⟨none, 0, by first | (rw [hF] <;> rfl) | rfl | (rw [hF]; simp only [Ending.returned.injEq, Value.slice.injEq, true_and, and_true]; first | omega | (simp; done)) | (rw [hF]; simp; omega), by rw [hF]; exact (So.nil (Nat.zero_le _)), HH15.below⟩
  · have hvm := hc23
    obtain ⟨v0, v1, v2, v3⟩ := validMulti_facts hc23
    have hrr := validMulti_reads3 hc23
    refine wp_skip ?_
    refine nrm ?_
    refine wp_seq ?_
    refine wp_seq ?_
    refine rg ?_
    refine pl_x HE19 HH15 (wt0 rfl) (x_move rfl) rfl rfl fun a_24 HE25 => ?_
    refine pl_x HE25 HH15 (wt0 rfl) (x_fieldAddr fa_55_2 rfl) rfl rfl fun a_26 HE27 => ?_
    refine pl_x HE27 HH15 (wt0 rfl) (x_load1 tv_2 rfl (c_blk 0 rfl rfl)) rfl rfl fun a_28 HE29 => ?_
    refine pl_x HE29 HH15 (wt0 rfl) (x_sub rfl rfl (by exact ⟨by omega, by omega⟩)) rfl rfl fun a_30 HE31 => ?_
    refine pl fun K_32 hK33 => ?_
    refine st_call HE31 (wt0 rfl) rfl rfl rfl en_61 rfl rfl (spec_l00In a1 0 (a0.2.2.1 - 1) _ ) fun e w' hr => ?_
    obtain ⟨rfl, rfl⟩ := hr
    refine ⟨_, rfl, fun a_34 HE35 => hK33 _ _ ?_⟩
    refine pl_x HE35 HH15 (wt0 rfl) (x_not rfl) rfl rfl fun a_36 HE37 => ?_
    refine wpList_nil ?_
    clear a_18 HE19 a_24 HE25 a_26 HE27 a_28 HE29 a_30 HE31 a_34 HE35 hK33 K_32
    refine nrm ?_
    refine cnd_nb HE37 rfl (fun hc25 => ?_) (fun hc25 => ?_)
    · refine wp_seq ?_
      refine rg ?_
      refine pl_x HE37 HH15 (wt0 rfl) (x_assign rfl) rfl rfl fun a_38 HE39 => ?_
      refine pl_x HE39 HH15 (wt0 rfl) (x_assign rfl) rfl rfl fun a_40 HE41 => ?_
      refine wpList_nil ?_
      clear a_36 HE37 a_38 HE39
      refine nrm ?_
      refine wp_ret ?_
      refine (thn_ret ?_)
      refine ret2 HE41 rfl (rv_tmp rfl) (rv_tmp rfl) ?_
      have hF : (haltReads a0 a1) = ([], 2) := by
        first | (simp [haltReads, hc23, hc25]; done) | (unfold haltReads; rw [if_pos hvm, if_pos (by assumption)])
      exact ⟨none, 0, by first | (rw [hF] <;> rfl) | rfl | (rw [hF]; simp only [Ending.returned.injEq, Value.slice.injEq, true_and, and_true]; first | omega | (simp; done)) | (rw [hF]; simp; omega), by rw [hF]; exact (So.nil (Nat.zero_le _)), HH15.below⟩
    · have hwb := withinB_true.1 hc25
      refine wp_skip ?_
      refine nrm ?_
      refine wp_seq ?_
      refine rg ?_
      refine pl_x HE37 HH15 (wt0 rfl) (x_move rfl) rfl rfl fun a_42 HE43 => ?_
      refine pl fun K_44 hK45 => ?_
      refine st_call HE43 (wt0 rfl) rfl rfl rfl en_62 rfl rfl (spec_l06Reads _ _ _ a0 a1 _ (HH15.oldR H0) (c_blkN 0 rfl _ HH15) (by assumption) (by omega)) fun e w' hr => ?_
      obtain ⟨Ar26_0, cr26_0, rfl, hor26_0, hbr26⟩ := hr
      obtain ⟨Sr26, HH46⟩ := HH15.newS hbr26 hor26_0
      refine ⟨_, rfl, fun a_47 HE48 => hK45 _ _ ?_⟩
      refine pl_x HE48 HH46 (wt0 rfl) (x_assign rfl) rfl rfl fun a_49 HE50 => ?_
      refine pl_x HE50 HH46 (wt0 rfl) (x_assign rfl) rfl rfl fun a_51 HE52 => ?_
      refine wpList_nil ?_
      clear a_36 HE37 HH15 a_42 HE43 a_47 HE48 a_49 HE50 hK45 K_44
      refine nrm ?_
      refine wp_ret ?_
      refine ret2 HE52 rfl (rv_tmp rfl) (rv_tmp rfl) ?_
      have hF : (haltReads a0 a1) = ((hReads a0 a1), 0) := by
        first | (simp [haltReads, hc23, hc25]; done) | (unfold haltReads; rw [if_pos hvm, if_pos (by assumption)])
      exact ⟨Ar26_0, cr26_0, by first | (rw [hF] <;> rfl) | rfl | (rw [hF]; simp only [Ending.returned.injEq, Value.slice.injEq, true_and, and_true]; first | omega | (simp; done)) | (rw [hF]; simp; omega), by rw [hF]; exact (HH46.so (i := 0) rfl), HH46.below⟩

theorem allF_each {S : Nat} : ∀ (t : Nat) (r : List Int), r ∈ allF S t → r.length = t
  | 0, r, h => by rw [List.mem_singleton.1 h]; rfl
  | t + 1, r, h => by
    rw [allF, List.mem_flatMap] at h
    obtain ⟨u, _, h⟩ := h
    obtain ⟨q, hq, rfl⟩ := List.mem_map.1 h
    rw [List.length_cons, allF_each t q hq]

theorem hReads_each {m : tMulti} {st : Int} (r : List Int) (h : r ∈ hReads m st) : r.length = m.1.toNat := by
  rw [hReads_eq] at h
  exact allF_each _ r (List.mem_filter.1 h).1

theorem hReads_len {m : tMulti} (st : Int) (h : validMulti m = true) : (hReads m st).length ≤ 27 := by
  obtain ⟨v0, v1, v2, v3⟩ := validMulti_facts h
  rw [hReads_eq]
  refine Nat.le_trans (List.length_filter_le _ _) ?_
  rw [allF_len]
  exact Nat.le_trans (Nat.pow_le_pow_left (show m.2.1.toNat ≤ 3 by omega) _) (Nat.pow_le_pow_right (show 0 < 3 by omega) (show m.1.toNat ≤ 3 by omega))

theorem haltReads_ct (m : tMulti) (st : Int) : (ct_LL (haltReads m st).1 : Int) ≤ 1000000000 := by
  unfold haltReads
  split
  · rename_i h
    split
    · have h1 : ct_LL (hReads m st) ≤ 3 * (hReads m st).length := cntL_bound fun x hx => by
        have h4 := (validMulti_facts h).1
        rw [ct_L_len, hReads_each x hx]; omega
      have h2 := hReads_len st h
      show (ct_LL (hReads m st) : Int) ≤ _
      omega
    · exact (by decide : (ct_LL [] : Int) ≤ 1000000000)
  · exact (by decide : (ct_LL [] : Int) ≤ 1000000000)

end Go.Proofs.Ythfihlfjphiihaa
