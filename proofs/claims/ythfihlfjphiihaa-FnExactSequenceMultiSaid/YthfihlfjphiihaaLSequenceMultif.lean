/- What the proof of FnExactSequenceMulti needs: contracts of the functions that it reaches, each once. -/
import Derived.Test.YthfihlfjphiihaaProg
import Derived.Test.YthfihlfjphiihaaQMem
import Derived.Test.YthfihlfjphiihaaQOpen
import Derived.Test.YthfihlfjphiihaaLSequenceMultia
import Derived.Test.YthfihlfjphiihaaLSequenceMultib
import Derived.Test.YthfihlfjphiihaaLSequenceMultic
import Derived.Test.YthfihlfjphiihaaLSequenceMultid
import Derived.Test.YthfihlfjphiihaaLSequenceMultie
import Derived.WalkKit
import Derived.WalkSpells
import Derived.Below
import Derived.LoopTactic
import Derived.Outline
import Derived.Deep.QuietTactic
import Derived.BigQuiet
import Derived.Deep.LoopGhost
import Derived.Handy
import Derived.Lib.Hide
import Derived.Shelf.Abstract
import Derived.StillTailTactics
import Derived.OwnWalk
import Derived.Maps.AppendAt
import Derived.RegionTactic
import Derived.Deep.RegionHeld3
import Derived.IntWalk
import Derived.Deep.Upon
import Derived.Laws.OwnMore
import Derived.Maps.AppendAt
import Derived.Laws.Small
import Derived.Lib.FrozenHead
import Derived.Lib.RuneBytes
import Derived.Lib.LaidTab
import Derived.Laws.StructEq
import Derived.Maps.OwnSet
import Derived.DeepKeys4
import Derived.Lib.SliceRun
import Derived.Lib.AppendZeros
import Derived.Shelf.SortG.Plain
import Derived.Shelf.SortG.SortNone
import Derived.Shelf.SlicesG.CompactI
import Derived.Shelf.SlicesG.SearchI
import Derived.Sort.OwnSortedInts
import Derived.Lib.RowBridge
import Derived.Lib.ItoaLen
import Derived.Lib.Join
import Derived.Shelf.Strconv.Itoa4
import Derived.Shelf.Strings.OnBuilder
import Derived.Shelf.Strings.BuilderK
import Derived.Shelf.Strings.BuilderRune
import Derived.Shelf.LaysM
import Derived.Ground.NamesProg
import Derived.Shelf.SlSortCmp.WholeK
import Derived.Shelf.SlSortCmp.NoneTotal
namespace Go.Proofs.Ythfihlfjphiihaa
open Go.RowKit

theorem swo_MR {ι : Type} (f : ι → tMultiRule) : Go.Sort.SWO (ltOf fun x y => cmpMR (f x) (f y)) where
  irrefl x := by simp [ltOf, cmpMR_self]
  trans x y z h1 h2 := by
    simp only [ltOf, decide_eq_true_eq] at *
    exact cmpMR_trans h1 h2
  ntrans x y z h1 h2 := by
    simp only [ltOf, decide_eq_false_iff_not] at *
    intro h3
    have a1 := cmpMR_anti (f x) (f y)
    have a2 := cmpMR_anti (f y) (f z)
    by_cases e1 : cmpMR (f y) (f x) = 0
    · have := cmpMR_cong (c := f z) e1; omega
    · by_cases e2 : cmpMR (f z) (f y) = 0
      · have := cmpMR_cong (c := f x) e2
        have := cmpMR_anti (f x) (f z)
        omega
      · have := cmpMR_trans (a := f y) (b := f x) (c := f z) (by omega) h3
        omega

/-- The rules in order. -/
def sortMR (l : List tMultiRule) : List tMultiRule := l.foldl putMR []

def upMR (l : List tMultiRule) : Prop := l.Pairwise fun x y => cmpMR x y < 0

def apartMR (l : List tMultiRule) : Prop := l.Pairwise fun x y => cmpMR x y ≠ 0

theorem putMR_perm (l : List tMultiRule) (r : tMultiRule) : (putMR l r).Perm (r :: l) := by
  unfold putMR
  refine List.perm_middle.trans ?_
  rw [List.take_append_drop]

theorem posMR_behind {l : List tMultiRule} {r : tMultiRule} : ∀ (n : Nat), n ≤ l.length → ∀ i (hi : i < l.length), posMR l r n ≤ i → i < n → cmpMR r l[i] < 0
  | 0, _, _, _, _, h => absurd h (Nat.not_lt_zero _)
  | n + 1, hn, i, hi, h1, h2 => by
    rw [posMR] at h1
    split at h1
    · next hb =>
      by_cases e : i = n
      · subst e
        rw [List.getElem?_eq_getElem hi, Option.getD_some] at hb
        unfold beforeMR at hb
        simpa using hb
      · exact posMR_behind n (by omega) i hi h1 (by omega)
    · omega

theorem posMR_front {l : List tMultiRule} {r : tMultiRule} : ∀ (n : Nat), n ≤ l.length → ∀ k, posMR l r n = k + 1 → ∃ hk : k < l.length, ¬ cmpMR r l[k] < 0
  | 0, _, k, h => by simp [posMR] at h
  | n + 1, hn, k, h => by
    rw [posMR] at h
    split at h
    · exact posMR_front n (by omega) k h
    · next hb =>
      obtain rfl : n = k := by omega
      refine ⟨by omega, ?_⟩
      rw [List.getElem?_eq_getElem (by omega), Option.getD_some] at hb
      unfold beforeMR at hb
      simpa using hb

theorem putMR_up {l : List tMultiRule} {r : tMultiRule} (h : upMR l) (hd : ∀ x ∈ l, cmpMR x r ≠ 0) : upMR (putMR l r) := by
  unfold upMR putMR at *
  have hp := posMR_le l r l.length
  refine List.pairwise_append.2 ⟨h.sublist (List.take_sublist _ _), List.pairwise_cons.2 ⟨fun x hx => ?_, h.sublist (List.drop_sublist _ _)⟩, fun x hx y hy => ?_⟩
  · obtain ⟨i, hi, rfl⟩ := List.mem_iff_getElem.1 hx
    rw [List.getElem_drop]
    rw [List.length_drop] at hi
    exact posMR_behind l.length (Nat.le_refl _) _ _ (by omega) (by omega)
  · obtain ⟨i, hi, rfl⟩ := List.mem_iff_getElem.1 hx
    rw [List.length_take] at hi
    rw [List.getElem_take]
    have hlt : cmpMR l[i] r < 0 := by
      obtain ⟨k, hk⟩ : ∃ k, posMR l r l.length = k + 1 := ⟨posMR l r l.length - 1, by omega⟩
      obtain ⟨hk1, hk2⟩ := posMR_front l.length (Nat.le_refl _) k hk
      have h1 := cmpMR_anti r l[k]
      have h2 := hd l[k] (List.getElem_mem _)
      by_cases e : i = k
      · subst e; omega
      · exact cmpMR_trans (List.pairwise_iff_getElem.1 h i k (by omega) hk1 (by omega)) (by omega)
    rcases List.mem_cons.1 hy with rfl | hy
    · exact hlt
    · obtain ⟨j, hj, rfl⟩ := List.mem_iff_getElem.1 hy
      rw [List.getElem_drop]
      rw [List.length_drop] at hj
      exact List.pairwise_iff_getElem.1 h i _ (by omega) (by omega) (by omega)

theorem foldMR {l : List tMultiRule} : ∀ (acc : List tMultiRule), upMR acc → apartMR (acc ++ l) → upMR (l.foldl putMR acc) ∧ (l.foldl putMR acc).Perm (acc ++ l) := by
  induction l with
  | nil => intro acc h _; exact ⟨h, by simp⟩
  | cons r l ih =>
    intro acc h hd
    have h0 : (putMR acc r ++ l).Perm (acc ++ r :: l) := ((putMR_perm acc r).append_right l).trans (List.perm_middle.symm)
    have h1 : upMR (putMR acc r) := putMR_up h fun x hx => (List.pairwise_append.1 hd).2.2 x hx r (by simp)
    have h2 : apartMR (putMR acc r ++ l) := List.Perm.pairwise h0.symm hd (fun {x y} hxy => by have := cmpMR_anti x y; omega)
    obtain ⟨h3, h4⟩ := ih _ h1 h2
    exact ⟨h3, h4.trans h0⟩

theorem sortMR_up {l : List tMultiRule} (h : apartMR l) : upMR (sortMR l) := (foldMR [] List.Pairwise.nil (by simpa using h)).1

theorem putMR_fold_perm : ∀ (l acc : List tMultiRule), (l.foldl putMR acc).Perm (acc ++ l)
  | [], acc => by simp
  | r :: l, acc => (putMR_fold_perm l (putMR acc r)).trans (((putMR_perm acc r).append_right l).trans (List.perm_middle.symm))

theorem sortMR_perm (l : List tMultiRule) : (sortMR l).Perm l := putMR_fold_perm l []

theorem sortMR_len (l : List tMultiRule) : (sortMR l).length = l.length := (sortMR_perm l).length_eq

theorem upMR_one {l l' : List tMultiRule} (h : upMR l) (h' : upMR l') (hp : l.Perm l') : l = l' :=
  List.Perm.eq_of_pairwise (fun a b _ _ h1 h2 => by have := cmpMR_anti a b; omega) h h' hp

set_option maxRecDepth 100000 in
set_option maxHeartbeats 4000000 in
theorem slices_CompareS (A0 : Option Addr) (c0 : Nat) (a0 : (List Int)) (A1 : Option Addr) (c1 : Nat) (a1 : (List Int)) (w : World) (h0 : Sl eInt w (Old w) A0 c0 a0) (h1 : Sl eInt w (Old w) A1 c1 a1) :
    Calls Try.prog 118 #[.slice A0 a0.length c0, .slice A1 a1.length c1] w fun e w' => e = .returned (.int .i64 (cmpL a0 a1)) ∧ w = w' := by
  have l0 := h0.len
  have l1 := h1.len
  have HH1 := Held.start Nob w
  refine enter (n := 36) Try.func118 rfl rfl rfl fun a_2 HE3 => ?_
  refine wp_seq ?_
  refine rg ?_
  refine pl_x HE3 HH1 (wt0 rfl) (x_assign rfl) rfl rfl fun a_4 HE5 => ?_
  refine wpList_nil ?_
  clear a_2 HE3
  refine nrm ?_
  refine wp_seq ?_
  refine wp_seq ?_
  refine rg ?_
  refine pl_x HE5 HH1 (wt0 rfl) (x_move rfl) rfl rfl fun a_6 HE7 => ?_
  refine pl_x HE7 HH1 (wt0 rfl) (x_len Try.underlying37 rfl) rfl rfl fun a_8 HE9 => ?_
  refine pl_x HE9 HH1 (wt0 rfl) (x_move rfl) rfl rfl fun a_10 HE11 => ?_
  refine wpList_nil ?_
  clear a_4 HE5 a_6 HE7 a_8 HE9
  refine nrm ?_
  refine wp_block ?_
  refine lp (fun m a w' => ∃ (k : Nat), m = a0.length - k ∧ Env 36 [(11, .int .i64 (k : Int)), (0, .slice A0 (a0.length) c0), (1, .slice A1 (a1.length) c1), (9, .slice A0 (a0.length) c0), (10, .int .i64 ((a0.length : Int)))] a ∧ Held Nob w [] w' ∧ (k ≤ a0.length) ∧ (k ≤ a1.length) ∧ (cmpL a0 a1 = cmpL (a0.drop k) (a1.drop k)) ∧ (w = w')) (a0.length - (0)) ?_ ?_
  · exact ⟨0, rfl, HE11.sub ⟨(lkI rfl (by first | rfl | omega | (simp []; done))), rfl, rfl, rfl, rfl, trivial⟩, (HH1.sel [] (by decide) rfl), (by first | omega | assumption | (simp; done) | simp_all), (by first | omega | assumption | (simp; done) | simp_all), (by rfl), (by rfl)⟩
  · rintro m a_12 w' ⟨k, rfl, HE13, HH14, p21_0, p21_1, p21_2, rfl⟩
    refine wp_seq ?_
    refine rg ?_
    refine pl_x HE13 HH14 (wt0 rfl) (x_lss rfl rfl) rfl rfl fun a_15 HE16 => ?_
    refine wpList_nil ?_
    clear a_10 HE11 HH1 a_12 HE13
    refine nrm ?_
    refine wp_seq ?_
    refine cnd_d HE16 rfl (fun hc22 => ?_) (fun hc22 => ?_)
    · refine wp_skip ?_
      refine nrm ?_
      refine wp_seq ?_
      refine wp_block ?_
      refine wp_seq ?_
      refine rg ?_
      refine pl_x HE16 HH14 (wt0 rfl) (x_move rfl) rfl rfl fun a_17 HE18 => ?_
      have ke23 : k < a0.length := by omega
      obtain ⟨be23, fe23, ese23, Ae23, Re23, De23⟩ := el_old h0 ke23
      obtain ⟨e23, xe23⟩ : ∃ x_, x_ = a0[k] := ⟨_, rfl⟩
      rw [← xe23] at Re23
      have Qe23 := Re23
      obtain ⟨rfl, ie23⟩ := Re23
      have je23 := ie23; unfold I64 at je23
      refine pl_x HE18 HH14 (wt0 rfl) (x_indexAddr ts_37 rfl rfl Ae23 rfl ke23) rfl rfl fun a_19 HE20 => ?_
      refine pl_x HE20 HH14 (wt0 rfl) (x_load1 tv_2 rfl (c_old (De23 0 _ rfl))) rfl rfl fun a_21 HE22 => ?_
      refine pl_x HE22 HH14 (wt0 rfl) (x_assign rfl) rfl rfl fun a_23 HE24 => ?_
      refine pl_x HE24 HH14 (wt0 rfl) (x_assign rfl) rfl rfl fun a_25 HE26 => ?_
      refine wpList_nil ?_
      clear a_15 HE16 a_17 HE18 a_19 HE20 a_21 HE22 a_23 HE24
      refine nrm ?_
      refine wp_seq ?_
      refine wp_seq ?_
      refine rg ?_
      refine pl_x HE26 HH14 (wt0 rfl) (x_move rfl) rfl rfl fun a_27 HE28 => ?_
      refine pl_x HE28 HH14 (wt0 rfl) (x_move rfl) rfl rfl fun a_29 HE30 => ?_
      refine pl_x HE30 HH14 (wt0 rfl) (x_len Try.underlying37 rfl) rfl rfl fun a_31 HE32 => ?_
      refine pl_x HE32 HH14 (wt0 rfl) (x_geq rfl rfl) rfl rfl fun a_33 HE34 => ?_
      refine wpList_nil ?_
      clear a_25 HE26 a_27 HE28 a_29 HE30 a_31 HE32
      refine nrm ?_
      refine cnd_d HE34 rfl (fun hc24 => ?_) (fun hc24 => ?_)
      · refine wp_seq ?_
        refine rg ?_
        refine pl_x HE34 HH14 (wt0 rfl) (x_assign rfl) rfl rfl fun a_35 HE36 => ?_
        refine wpList_nil ?_
        clear a_33 HE34
        refine nrm ?_
        refine wp_ret ?_
        refine (thn_ret (blk_ret (thn_ret (thn_ret (blk_ret (thn_ret ?_))))))
        refine ret1 HE36 rfl (rv_tmp rfl) ?_
        have hF : (cmpL a0 a1) = 1 := by
          rw [p21_2]; first | (rw [cmpL_end a0 a1 k (by omega) (by omega) (by omega)]; grind) | (rw [cmpL_step (by omega) (by omega)]; grind [cmpI])
        exact ⟨by first | (rw [hF] <;> rfl) | rfl | (rw [hF]; simp only [Ending.returned.injEq, Value.slice.injEq, true_and, and_true]; first | omega | (simp; done)) | (rw [hF]; simp; omega), rfl⟩
      · refine wp_skip ?_
        refine nrm ?_
        refine wp_seq ?_
        refine rg ?_
        refine pl_x HE34 HH14 (wt0 rfl) (x_move rfl) rfl rfl fun a_37 HE38 => ?_
        refine pl_x HE38 HH14 (wt0 rfl) (x_move rfl) rfl rfl fun a_39 HE40 => ?_
        have ke25 : k < a1.length := by omega
        obtain ⟨be25, fe25, ese25, Ae25, Re25, De25⟩ := el_old h1 ke25
        obtain ⟨e25, xe25⟩ : ∃ x_, x_ = a1[k] := ⟨_, rfl⟩
        rw [← xe25] at Re25
        have Qe25 := Re25
        obtain ⟨rfl, ie25⟩ := Re25
        have je25 := ie25; unfold I64 at je25
        refine pl_x HE40 HH14 (wt0 rfl) (x_indexAddr ts_37 rfl rfl Ae25 rfl ke25) rfl rfl fun a_41 HE42 => ?_
        refine pl_x HE42 HH14 (wt0 rfl) (x_load1 tv_2 rfl (c_old (De25 0 _ rfl))) rfl rfl fun a_43 HE44 => ?_
        refine pl_x HE44 HH14 (wt0 rfl) (x_assign rfl) rfl rfl fun a_45 HE46 => ?_
        refine wpList_nil ?_
        clear a_33 HE34 a_37 HE38 a_39 HE40 a_41 HE42 a_43 HE44
        refine nrm ?_
        refine wp_seq ?_
        refine rg ?_
        refine pl_x HE46 HH14 (wt0 rfl) (x_move rfl) rfl rfl fun a_47 HE48 => ?_
        refine pl_x HE48 HH14 (wt0 rfl) (x_move rfl) rfl rfl fun a_49 HE50 => ?_
        refine pl fun K_51 hK52 => ?_
        refine st_call HE50 (wt0 rfl) rfl rfl rfl en_122 rfl rfl (cmp_Compare e23 e25 _ ) fun e w' hr => ?_
        obtain ⟨rfl, rfl⟩ := hr
        refine ⟨_, rfl, fun a_53 HE54 => hK52 _ _ ?_⟩
        refine pl_x HE54 HH14 (wt0 rfl) (x_assign rfl) rfl rfl fun a_55 HE56 => ?_
        refine wpList_nil ?_
        clear a_45 HE46 a_47 HE48 a_49 HE50 a_53 HE54 hK52 K_51
        refine nrm ?_
        refine wp_seq ?_
        refine rg ?_
        refine pl_x HE56 HH14 (wt0 rfl) (x_move rfl) rfl rfl fun a_57 HE58 => ?_
        refine pl_x HE58 HH14 (wt0 rfl) (x_neq rfl rfl) rfl rfl fun a_59 HE60 => ?_
        refine wpList_nil ?_
        clear a_55 HE56 a_57 HE58
        refine nrm ?_
        refine cnd_ne HE60 rfl (fun hc27 => ?_) (fun hc27 => ?_)
        · refine wp_seq ?_
          refine rg ?_
          refine pl_x HE60 HH14 (wt0 rfl) (x_move rfl) rfl rfl fun a_61 HE62 => ?_
          refine pl_x HE62 HH14 (wt0 rfl) (x_assign rfl) rfl rfl fun a_63 HE64 => ?_
          refine wpList_nil ?_
          clear a_59 HE60 a_61 HE62
          refine nrm ?_
          refine wp_ret ?_
          refine (blk_ret (thn_ret (thn_ret (blk_ret (thn_ret ?_)))))
          refine ret1 HE64 rfl (rv_tmp rfl) ?_
          have hF : (cmpL a0 a1) = (cmpI e23 e25) := by
            rw [p21_2]; first | (rw [cmpL_end a0 a1 k (by omega) (by omega) (by omega)]; grind) | (rw [cmpL_step (by omega) (by omega)]; grind [cmpI])
          exact ⟨by first | (rw [hF] <;> rfl) | rfl | (rw [hF]; simp only [Ending.returned.injEq, Value.slice.injEq, true_and, and_true]; first | omega | (simp; done)) | (rw [hF]; simp; omega), rfl⟩
        · refine wp_skip ?_
          refine blk_n ?_
          refine nrm ?_
          refine rg ?_
          refine pl_x HE60 HH14 (wt0 rfl) (x_add rfl rfl (by exact ⟨by omega, by omega⟩)) rfl rfl fun a_65 HE66 => ?_
          refine pl_x HE66 HH14 (wt0 rfl) (x_move rfl) rfl rfl fun a_67 HE68 => ?_
          refine wpList_nil ?_
          clear a_59 HE60 a_65 HE66
          exact nrm ⟨a0.length - (k + 1), (by omega), k + 1, rfl, HE68.sub ⟨(lkI rfl (by first | rfl | omega | (simp [p21_0, p21_1, p21_2, hc22, xe23, hc24, xe25, hc27]; done))), rfl, rfl, rfl, rfl, trivial⟩, (HH14.sel [] (by decide) rfl), (by first | omega | assumption | (simp; done) | simp_all), (by first | omega | assumption | (simp; done) | simp_all), (by rw [p21_2, cmpL_step (by omega) (by omega)]; grind [cmpI]), (by rfl)⟩
    · refine wp_exit ?_
      refine (thn_exit (thn_exit (blk_hit ?_)))
      refine nrm ?_
      refine wp_seq ?_
      refine wp_seq ?_
      refine rg ?_
      refine pl_x HE16 HH14 (wt0 rfl) (x_move rfl) rfl rfl fun a_69 HE70 => ?_
      refine pl_x HE70 HH14 (wt0 rfl) (x_len Try.underlying37 rfl) rfl rfl fun a_71 HE72 => ?_
      refine pl_x HE72 HH14 (wt0 rfl) (x_move rfl) rfl rfl fun a_73 HE74 => ?_
      refine pl_x HE74 HH14 (wt0 rfl) (x_len Try.underlying37 rfl) rfl rfl fun a_75 HE76 => ?_
      refine pl_x HE76 HH14 (wt0 rfl) (x_lss rfl rfl) rfl rfl fun a_77 HE78 => ?_
      refine wpList_nil ?_
      clear a_15 HE16 a_69 HE70 a_71 HE72 a_73 HE74 a_75 HE76
      refine nrm ?_
      refine cnd_d HE78 rfl (fun hc28 => ?_) (fun hc28 => ?_)
      · refine wp_seq ?_
        refine rg ?_
        refine pl_x HE78 HH14 (wt0 rfl) (x_assign rfl) rfl rfl fun a_79 HE80 => ?_
        refine wpList_nil ?_
        clear a_77 HE78
        refine nrm ?_
        refine wp_ret ?_
        refine (thn_ret ?_)
        refine ret1 HE80 rfl (rv_tmp rfl) ?_
        have hF : (cmpL a0 a1) = -1 := by
          rw [p21_2]; first | (rw [cmpL_end a0 a1 k (by omega) (by omega) (by omega)]; grind) | (rw [cmpL_step (by omega) (by omega)]; grind [cmpI])
        exact ⟨by first | (rw [hF] <;> rfl) | rfl | (rw [hF]; simp only [Ending.returned.injEq, Value.slice.injEq, true_and, and_true]; first | omega | (simp; done)) | (rw [hF]; simp; omega), rfl⟩
      · refine wp_skip ?_
        refine nrm ?_
        refine wp_seq ?_
        refine rg ?_
        refine pl_x HE78 HH14 (wt0 rfl) (x_assign rfl) rfl rfl fun a_81 HE82 => ?_
        refine wpList_nil ?_
        clear a_77 HE78
        refine nrm ?_
        refine wp_ret ?_
        refine ret1 HE82 rfl (rv_tmp rfl) ?_
        have hF : (cmpL a0 a1) = 0 := by
          rw [p21_2]; first | (rw [cmpL_end a0 a1 k (by omega) (by omega) (by omega)]; grind) | (rw [cmpL_step (by omega) (by omega)]; grind [cmpI])
        exact ⟨by first | (rw [hF] <;> rfl) | rfl | (rw [hF]; simp only [Ending.returned.injEq, Value.slice.injEq, true_and, and_true]; first | omega | (simp; done)) | (rw [hF]; simp; omega), rfl⟩

set_option maxRecDepth 100000 in
set_option maxHeartbeats 4000000 in
theorem impl_compareMultiRulesG (es0 : List Value) (a0 : tMultiRule) (es1 : List Value) (a1 : tMultiRule) (w : World) (h0 : eMultiRule.R w (Old w) es0 a0) (h1 : eMultiRule.R w (Old w) es1 a1) :
    Calls Try.prog 102 #[.agg es0.toArray, .agg es1.toArray] w fun e w' => e = .returned (.int .i64 (cmpMR a0 a1)) ∧ Gr w w' := by
  have H0 := h0
  obtain ⟨Az0_1, cz0_1, Az0_2, cz0_2, Az0_3, cz0_3, rfl, gz0_0, gz0_1, gz0_2, gz0_3, gz0_4⟩ := shape_MultiRule h0
  have jz0_0 := gz0_0; unfold I64 at jz0_0
  have lz0_1 := gz0_1.len
  have lz0_2 := gz0_2.len
  have lz0_3 := gz0_3.len
  have jz0_4 := gz0_4; unfold I64 at jz0_4
  have H1 := h1
  obtain ⟨Az1_1, cz1_1, Az1_2, cz1_2, Az1_3, cz1_3, rfl, gz1_0, gz1_1, gz1_2, gz1_3, gz1_4⟩ := shape_MultiRule h1
  have jz1_0 := gz1_0; unfold I64 at jz1_0
  have lz1_1 := gz1_1.len
  have lz1_2 := gz1_2.len
  have lz1_3 := gz1_3.len
  have jz1_4 := gz1_4; unfold I64 at jz1_4
  have HH1 := Held.start Nob w
  have HG := Gr.refl w
  refine enter (n := 20) Try.func102 rfl rfl rfl fun a_2 HE3 => ?_
  refine wp_seq ?_
  refine rg ?_
  refine pl fun K_4 hK5 => ?_
  refine st_boxG (cs := [.int .i64 (a0.1), .slice Az0_1 (a0.2.1.length) cz0_1, .slice Az0_2 (a0.2.2.1.length) cz0_2, .slice Az0_3 (a0.2.2.2.1.length) cz0_3, .int .i64 (a0.2.2.2.2)]) HG HE3 HH1 rfl rfl (wt0 rfl) rfl fun q21 a_6 w' HE7 HH8 HG => hK5 _ _ ?_
  refine pl fun K_9 hK10 => ?_
  refine st_boxG (cs := [.int .i64 (a1.1), .slice Az1_1 (a1.2.1.length) cz1_1, .slice Az1_2 (a1.2.2.1.length) cz1_2, .slice Az1_3 (a1.2.2.2.1.length) cz1_3, .int .i64 (a1.2.2.2.2)]) HG HE7 HH8 rfl rfl (wt0 rfl) rfl fun q22 a_11 w' HE12 HH13 HG => hK10 _ _ ?_
  refine pl_x HE12 HH13 (wt0 rfl) (x_assign rfl) rfl rfl fun a_14 HE15 => ?_
  refine wpList_nil ?_
  clear a_2 HE3 HH1 K_4 hK5 a_6 HE7 HH8 a_11 HE12 hK10 K_9
  refine nrm ?_
  refine wp_seq ?_
  refine wp_seq ?_
  refine rg ?_
  refine pl_x HE15 HH13 (wt0 rfl) (x_fieldAddr fa_104_0 rfl) rfl rfl fun a_16 HE17 => ?_
  refine pl_x HE17 HH13 (wt0 rfl) (x_load1 tv_2 rfl (c_blk 1 rfl rfl)) rfl rfl fun a_18 HE19 => ?_
  refine pl_x HE19 HH13 (wt0 rfl) (x_fieldAddr fa_104_0 rfl) rfl rfl fun a_20 HE21 => ?_
  refine pl_x HE21 HH13 (wt0 rfl) (x_load1 tv_2 rfl (c_blk 0 rfl rfl)) rfl rfl fun a_22 HE23 => ?_
  refine pl_x HE23 HH13 (wt0 rfl) (x_neq rfl rfl) rfl rfl fun a_24 HE25 => ?_
  refine wpList_nil ?_
  clear a_14 HE15 a_16 HE17 a_18 HE19 a_20 HE21 a_22 HE23
  refine nrm ?_
  refine cnd_ne HE25 rfl (fun hc23 => ?_) (fun hc23 => ?_)
  · refine wp_seq ?_
    refine wp_seq ?_
    refine rg ?_
    refine pl_x HE25 HH13 (wt0 rfl) (x_fieldAddr fa_104_0 rfl) rfl rfl fun a_26 HE27 => ?_
    refine pl_x HE27 HH13 (wt0 rfl) (x_load1 tv_2 rfl (c_blk 1 rfl rfl)) rfl rfl fun a_28 HE29 => ?_
    refine pl_x HE29 HH13 (wt0 rfl) (x_fieldAddr fa_104_0 rfl) rfl rfl fun a_30 HE31 => ?_
    refine pl_x HE31 HH13 (wt0 rfl) (x_load1 tv_2 rfl (c_blk 0 rfl rfl)) rfl rfl fun a_32 HE33 => ?_
    refine pl_x HE33 HH13 (wt0 rfl) (x_lss rfl rfl) rfl rfl fun a_34 HE35 => ?_
    refine wpList_nil ?_
    clear a_24 HE25 a_26 HE27 a_28 HE29 a_30 HE31 a_32 HE33
    refine nrm ?_
    refine cnd_d HE35 rfl (fun hc24 => ?_) (fun hc24 => ?_)
    · refine wp_seq ?_
      refine rg ?_
      refine pl_x HE35 HH13 (wt0 rfl) (x_assign rfl) rfl rfl fun a_36 HE37 => ?_
      refine wpList_nil ?_
      clear a_34 HE35
      refine nrm ?_
      refine wp_ret ?_
      refine (thn_ret (thn_ret ?_))
      refine ret1 HE37 rfl (rv_tmp rfl) ?_
      have hF : (cmpMR a0 a1) = -1 := by
        first | (unfold cmpMR; grind)
      exact ⟨by first | (rw [hF] <;> rfl) | rfl | (rw [hF]; simp only [Ending.returned.injEq, Value.slice.injEq, true_and, and_true]; first | omega | (simp; done)) | (rw [hF]; simp; omega), HG⟩
    · refine wp_skip ?_
      refine nrm ?_
      refine wp_seq ?_
      refine rg ?_
      refine pl_x HE35 HH13 (wt0 rfl) (x_assign rfl) rfl rfl fun a_38 HE39 => ?_
      refine wpList_nil ?_
      clear a_34 HE35
      refine nrm ?_
      refine wp_ret ?_
      refine (thn_ret ?_)
      refine ret1 HE39 rfl (rv_tmp rfl) ?_
      have hF : (cmpMR a0 a1) = 1 := by
        first | (unfold cmpMR; grind)
      exact ⟨by first | (rw [hF] <;> rfl) | rfl | (rw [hF]; simp only [Ending.returned.injEq, Value.slice.injEq, true_and, and_true]; first | omega | (simp; done)) | (rw [hF]; simp; omega), HG⟩
  · refine wp_skip ?_
    refine nrm ?_
    refine wp_seq ?_
    refine rg ?_
    refine pl_x HE25 HH13 (wt0 rfl) (x_fieldAddr fa_104_1 rfl) rfl rfl fun a_40 HE41 => ?_
    refine pl_x HE41 HH13 (wt0 rfl) (x_load1 tv_37 rfl (c_blk 1 rfl rfl)) rfl rfl fun a_42 HE43 => ?_
    refine pl_x HE43 HH13 (wt0 rfl) (x_fieldAddr fa_104_1 rfl) rfl rfl fun a_44 HE45 => ?_
    refine pl_x HE45 HH13 (wt0 rfl) (x_load1 tv_37 rfl (c_blk 0 rfl rfl)) rfl rfl fun a_46 HE47 => ?_
    refine pl fun K_48 hK49 => ?_
    refine st_call HE47 (wt0 rfl) rfl rfl rfl en_118 rfl rfl (slices_CompareS _ _ a0.2.1 _ _ a1.2.1 _ (HH13.old gz0_1) (HH13.old gz1_1)) fun e w' hr => ?_
    obtain ⟨rfl, rfl⟩ := hr
    refine ⟨_, rfl, fun a_50 HE51 => hK49 _ _ ?_⟩
    refine pl_x HE51 HH13 (wt0 rfl) (x_assign rfl) rfl rfl fun a_52 HE53 => ?_
    refine wpList_nil ?_
    clear a_24 HE25 a_40 HE41 a_42 HE43 a_44 HE45 a_46 HE47 a_50 HE51 hK49 K_48
    refine nrm ?_
    refine wp_ret ?_
    refine ret1 HE53 rfl (rv_tmp rfl) ?_
    have hF : (cmpMR a0 a1) = (cmpL a0.2.1 a1.2.1) := by
      first | (unfold cmpMR; grind)
    exact ⟨by first | (rw [hF] <;> rfl) | rfl | (rw [hF]; simp only [Ending.returned.injEq, Value.slice.injEq, true_and, and_true]; first | omega | (simp; done)) | (rw [hF]; simp; omega), HG⟩

theorem heap_rowK {ι : Type} [Inhabited ι] {enc : ι → List Value} {w : World} {g n k off : Nat} {os : Array Obj} {cur : Array Value} {e : TypeId} {fr : Nat × Nat} (d : Array ι) (hb : w.heap[g]? = some (.cells cur e fr)) :
    (sortWorldK enc k w g off n d os).heap[g]? = some (.cells (Go.Sort.putCells id off (Go.Sort.flatK enc k d) cur) e fr) := by
  have hg : g < w.heap.size := (Array.getElem?_eq_some_iff.1 hb).1
  unfold sortWorldK Go.Sort.putRowK
  rw [Go.Sort.heap_grow_old _ _ (by simpa using hg)]
  simp [Go.Sort.putRow, Go.Sort.mapBlock, Go.Sort.ahead, Array.getElem?_modify, hb, Go.Sort.onCells]

theorem heap_rowKo {ι : Type} [Inhabited ι] {enc : ι → List Value} {w : World} {g n k off j : Nat} {os : Array Obj} (d : Array ι) (hj : j < w.heap.size) (hne : j ≠ g) :
    (sortWorldK enc k w g off n d os).heap[j]? = w.heap[j]? := by
  unfold sortWorldK Go.Sort.putRowK
  rw [Go.Sort.heap_grow_old _ _ (by simpa using hj)]
  simp [Go.Sort.putRow, Go.Sort.mapBlock, Go.Sort.ahead, Array.getElem?_modify, Ne.symm hne]

theorem chg_rowK {ι : Type} [Inhabited ι] {enc : ι → List Value} {w : World} {g n k off : Nat} {os : Array Obj} {S : Nat → Prop} (d : Array ι) (hS : S g) : Chg S w (sortWorldK enc k w g off n d os) :=
  ⟨rfl, rfl, rfl, by simp [sortWorldK, Go.Sort.putRowK], fun j hj hne => heap_rowKo d hj fun e => hne (by rw [e]; exact hS)⟩

theorem so_rowK {α : Type} {E : Enc α} {w : World} {S : Nat → Prop} {A : Option Addr} {c : Nat} {xs : List α} [Inhabited (Fin xs.length)] (h : So E w S A c xs) (hx : xs ≠ []) (hS : ∀ b, S b → b < w.heap.size) (h1 : ∀ w S es x, E.R w S es x → ∀ v ∈ es, v.oneCell' = true) :
    ∃ (b off : Nat) (css : Fin xs.length → List Value), A = some ⟨b, off, none⟩ ∧ b < w.heap.size ∧ (∀ i, (css i).length = E.size) ∧ (∀ i, ∀ v ∈ css i, v.oneCell' = true) ∧ Go.Sort.HoldsK css E.size w b off (Array.ofFn fun i : Fin xs.length => i) ∧
      (∀ (d : Array (Fin xs.length)) (n : Nat) (os : Array Obj) (i : Fin xs.length), E.R (sortWorldK css E.size w b off n d os) (Old (sortWorldK css E.size w b off n d os)) (css i) xs[i]) ∧
      ∀ (d : Array (Fin xs.length)) (n : Nat) (os : Array Obj), d.toList.Perm (List.ofFn fun i : Fin xs.length => i) → So E (sortWorldK css E.size w b off n d os) S A c (d.toList.map fun i => xs[i]) ∧ Chg S w (sortWorldK css E.size w b off n d os) := by
  obtain ⟨k1, k2, k3⟩ := h
  obtain ⟨b, off, t, cur, T, rfl, hb, hB, hT1, hT2, hE⟩ := k3 hx
  have hE' : ∀ i : Fin xs.length, ∃ es, E.O w (T i.val) es xs[i] ∧ ∀ j v, es[j]? = some v → cur[off + i.val * E.size + j]? = some v := fun i => hE i.val xs[i] (List.getElem?_eq_getElem i.isLt)
  obtain ⟨css, hcss⟩ : ∃ css : Fin xs.length → List Value, ∀ i, E.O w (T i.val) (css i) xs[i] ∧ ∀ j v, (css i)[j]? = some v → cur[off + i.val * E.size + j]? = some v := ⟨fun i => (hE' i).choose, fun i => (hE' i).choose_spec⟩
  have hlen : ∀ i, (css i).length = E.size := fun i => E.len (E.read (hcss i).1)
  have hkeep : ∀ (d : Array (Fin xs.length)) (n : Nat) (os : Array Obj) (i : Fin xs.length), E.O (sortWorldK css E.size w b off n d os) (T i.val) (css i) xs[i] := fun d n os i =>
    E.okeep (hcss i).1 fun j hj => heap_rowKo d (hS j (hT1 _ _ hj).1) (hT1 _ _ hj).2
  have hsz : ∀ (d : Array (Fin xs.length)) (n : Nat) (os : Array Obj), w.heap.size ≤ (sortWorldK css E.size w b off n d os).heap.size := fun d n os => by simp [sortWorldK, Go.Sort.putRowK]
  refine ⟨b, off, css, rfl, Blk.lt hB, hlen, fun i => h1 _ _ _ _ (E.read (hcss i).1), ?_, fun d n os i => E.more (E.read (hkeep d n os i)) fun j hj => Nat.lt_of_lt_of_le (hS j (hT1 _ _ hj).1) (hsz d n os), ?_⟩
  · intro j hj
    rw [Go.Sort.size_flatK, Array.size_ofFn] at hj
    have hj1 : j / E.size < xs.length := (Nat.div_lt_iff_lt_mul E.pos).2 hj
    have hj2 : j % E.size < E.size := Nat.mod_lt _ E.pos
    refine ⟨?_, by
      have hB' : w.heap[b]? = some (.cells cur t (0, 0)) := hB
      simp [World.frozen?, hB']⟩
    rw [Go.Sort.get_flatK _ _ _ _ (by rw [Array.size_ofFn]; exact hj), getElem!_pos _ (j / E.size) (by simpa using hj1), Array.getElem_ofFn]
    have h2 := (hcss ⟨j / E.size, hj1⟩).2 (j % E.size) _ (List.getElem?_eq_getElem (by rw [hlen]; exact hj2))
    rw [hB.cell, show off + j = off + j / E.size * E.size + j % E.size by have := Nat.div_add_mod j E.size; rw [Nat.mul_comm] at this; omega, h2]
    rw [getElem!_pos _ _ (by rw [hlen]; exact hj2)]; rfl
  · intro d n os hp
    have hds : d.size = xs.length := by have := hp.length_eq; simpa using this
    have hnd : d.toList.Nodup := hp.nodup_iff.2 (by rw [List.nodup_iff_pairwise_ne, List.pairwise_iff_getElem]; intro i j _ _ hij; simp; omega)
    refine ⟨⟨by rw [List.length_map, Array.length_toList]; omega, k2, fun _ => ⟨b, off, t, _, fun i q => ∃ hi : i < d.size, T (d[i]'hi).val q, rfl, hb, heap_rowK d hB, fun i q ⟨_, hq⟩ => hT1 _ _ hq, fun i j q ⟨hi, hq⟩ ⟨hj, hq'⟩ => ?_, fun i x hi => ?_⟩⟩, chg_rowK d hb⟩
    · have e := Fin.ext (hT2 _ _ _ hq hq')
      rw [List.nodup_iff_pairwise_ne, List.pairwise_iff_getElem] at hnd
      rcases Nat.lt_trichotomy i j with h | h | h
      · exact (hnd i j (by simpa using hi) (by simpa using hj) h e).elim
      · exact h
      · exact (hnd j i (by simpa using hj) (by simpa using hi) h e.symm).elim
    · rw [List.getElem?_map] at hi
      have hid : i < d.size := by
        rcases Nat.lt_or_ge i d.size with h | h
        · exact h
        · rw [List.getElem?_eq_none (by simpa using h)] at hi; simp at hi
      rw [List.getElem?_eq_getElem (by simpa using hid)] at hi
      simp at hi
      subst hi
      refine ⟨css d[i], ?_, fun j v hv => ?_⟩
      · exact E.omore (hkeep d n os d[i]) fun q hq => ⟨hid, hq⟩
      · have hj : j < E.size := by have := (List.getElem?_eq_some_iff.1 hv).1; rw [hlen] at this; exact this
        have hlt : i * E.size + j < d.size * E.size := by
          have : (i + 1) * E.size ≤ d.size * E.size := Nat.mul_le_mul_right _ hid
          rw [Nat.succ_mul] at this; omega
        have e1 : (i * E.size + j) / E.size = i := (Go.Sort.blk_iff E.size i _ E.pos).1 ⟨by omega, by omega⟩
        have e2 : (i * E.size + j) % E.size = j := by rw [Nat.mod_eq_sub_div_mul, e1]; omega
        have hcur : off + i * E.size + j < cur.size := by
          have h3 := (hcss ⟨i, by omega⟩).2 j _ (List.getElem?_eq_getElem (by rw [hlen]; exact hj))
          exact (Array.getElem?_eq_some_iff.1 h3).1
        unfold Go.Sort.putCells
        rw [Array.getElem?_mapIdx, Array.getElem?_eq_getElem hcur]
        simp only [Option.map_some, Option.some.injEq]
        rw [if_pos ⟨by omega, by rw [Go.Sort.size_flatK]; omega⟩, show off + i * E.size + j - off = i * E.size + j by omega, Go.Sort.get_flatK _ _ _ _ hlt, e1, e2, getElem!_pos d i hid]
        have hv' := List.getElem?_eq_some_iff.1 hv
        rw [getElem!_pos _ j hv'.1]
        exact hv'.2

def shelf_sortf_ren : Go.Shelf.Ren := ⟨fun | 6 => 106 | 15 => 120 | 14 => 119 | 28 => 131 | 29 => 132 | 20 => 123 | 21 => 124 | 22 => 125 | 23 => 126 | 24 => 127 | 25 => 128 | 26 => 129 | 27 => 130 | 46 => 133 | 47 => 134 | 48 => 135 | 49 => 136 | 50 => 137 | 57 => 138 | n => n, fun | 22 => 53 | 24 => 104 | 25 => 132 | 3 => 3 | 39 => 123 | 0 => 0 | 53 => 160 | 55 => 162 | 4 => 4 | 46 => 154 | 45 => 153 | 50 => 88 | 5 => 5 | 9 => 9 | 66 => 163 | 70 => 167 | 76 => 169 | 77 => 170 | n => n, fun | n => n⟩

theorem shelf_sortf : Go.Proofs.SlLaysF0.n6 Try.prog shelf_sortf_ren := {
  mixed := by kernel_rfl
  f6 := ⟨Try.f106.name, by decide, Try.func106.trans (congrArg some (by kernel_rfl))⟩
  f14 := ⟨Try.f119.name, by decide, Try.func119.trans (congrArg some (by kernel_rfl))⟩
  f15 := Try.func120.trans (congrArg some (by kernel_rfl))
  f20 := ⟨Try.f123.name, by decide, Try.func123.trans (congrArg some (by kernel_rfl))⟩
  f21 := ⟨Try.f124.name, by decide, Try.func124.trans (congrArg some (by kernel_rfl))⟩
  f22 := ⟨Try.f125.name, by decide, Try.func125.trans (congrArg some (by kernel_rfl))⟩
  f23 := ⟨Try.f126.name, by decide, Try.func126.trans (congrArg some (by kernel_rfl))⟩
  f24 := ⟨Try.f127.name, by decide, Try.func127.trans (congrArg some (by kernel_rfl))⟩
  f25 := ⟨Try.f128.name, by decide, Try.func128.trans (congrArg some (by kernel_rfl))⟩
  f26 := ⟨Try.f129.name, by decide, Try.func129.trans (congrArg some (by kernel_rfl))⟩
  f27 := ⟨Try.f130.name, by decide, Try.func130.trans (congrArg some (by kernel_rfl))⟩
  f28 := Try.func131.trans (congrArg some (by kernel_rfl))
  f29 := Try.func132.trans (congrArg some (by kernel_rfl))
  f46 := ⟨Try.f133.name, by decide, Try.func133.trans (congrArg some (by kernel_rfl))⟩
  f47 := Try.func134.trans (congrArg some (by kernel_rfl))
  f48 := Try.func135.trans (congrArg some (by kernel_rfl))
  f49 := ⟨Try.f136.name, by decide, Try.func136.trans (congrArg some (by kernel_rfl))⟩
  f50 := ⟨Try.f137.name, by decide, Try.func137.trans (congrArg some (by kernel_rfl))⟩
  f57 := ⟨Try.f138.name, by decide, Try.func138.trans (congrArg some (by kernel_rfl))⟩
  t0 := Try.underlying0
  a0 := Try.isAgg0
  z0 := Try.sizeOf0
  v0 := Try.zeroValue0
  t3 := Try.underlying3
  a3 := Try.isAgg3
  z3 := Try.sizeOf3
  v3 := Try.zeroValue3
  t4 := Try.underlying4
  a4 := Try.isAgg4
  z4 := Try.sizeOf4
  v4 := Try.zeroValue4
  t5 := Try.underlying5
  a5 := Try.isAgg5
  z5 := Try.sizeOf5
  v5 := Try.zeroValue5
  t9 := Try.underlying9
  a9 := Try.isAgg9
  z9 := Try.sizeOf9
  v9 := Try.zeroValue9
  t22 := Try.underlying53
  a22 := Try.isAgg53
  z22 := Try.sizeOf53
  v22 := Try.zeroValue53
  t25 := Try.underlying132
  a25 := Try.isAgg132
  z25 := Try.sizeOf132
  v25 := Try.zeroValue132
  t39 := Try.underlying123
  a39 := Try.isAgg123
  z39 := Try.sizeOf123
  v39 := Try.zeroValue123
  t45 := Try.underlying153
  a45 := Try.isAgg153
  z45 := Try.sizeOf153
  v45 := Try.zeroValue153
  t46 := Try.underlying154
  a46 := Try.isAgg154
  z46 := Try.sizeOf154
  v46 := Try.zeroValue154
  t50 := Try.underlying88
  a50 := Try.isAgg88
  z50 := Try.sizeOf88
  v50 := Try.zeroValue88
  t53 := Try.underlying160
  a53 := Try.isAgg160
  z53 := Try.sizeOf160
  v53 := Try.zeroValue160
  t55 := Try.underlying162
  a55 := Try.isAgg162
  z55 := Try.sizeOf162
  v55 := Try.zeroValue162
  t66 := Try.underlying163
  a66 := Try.isAgg163
  z66 := Try.sizeOf163
  v66 := Try.zeroValue163
  t70 := Try.underlying167
  a70 := Try.isAgg167
  z70 := Try.sizeOf167
  v70 := Try.zeroValue167
  t76 := Try.underlying169
  a76 := Try.isAgg169
  z76 := Try.sizeOf169
  v76 := Try.zeroValue169
  t77 := Try.underlying170
  a77 := Try.isAgg170
  z77 := Try.sizeOf170
  v77 := Try.zeroValue170 }

theorem SortFunc_MR (M : Nat → Prop) (A : Option Addr) (c : Nat) (a : List tMultiRule) (S : Nat → Prop) (w : World) (HM : Held M w [rSo eMultiRule S A c a] w) (s0 : a.length ≤ 1000000) (s1 : apartMR a) :
    Calls Try.prog 106 #[.slice A a.length c, .func (.func 102) #[] #[]] w fun e w' => ∃ (S' : Nat → Prop), e = .returned (.tuple #[]) ∧ Held M w [rSo eMultiRule S' A c (sortMR a)] w' := by
  by_cases hx : a = []
  · subst hx
    refine (show Calls Try.prog 106 #[.slice A 0 c, .func (.func 102) #[] #[]] w _ from AnyF.slices_SortFunc_none shelf_sortf A c (.func (.func 102) #[] #[]) w).mono ?_
    rintro e w' ⟨rfl, rfl⟩
    exact ⟨S, rfl, HM⟩
  · haveI : Inhabited (Fin a.length) := ⟨⟨0, List.length_pos_iff.2 hx⟩⟩
    obtain ⟨b, off, css, rfl, hlt, hlen, hone, hH, hR, hput⟩ := so_rowK (so_of_o (HM.get (i := 0) rfl)) hx (fun q hq => (HM.rng _ List.mem_cons_self q hq).2) one_MultiRule
    have hc := AnyQ.slices_SortFunc (P := Try.prog) shelf_sortf 5 Try.isAgg104 Try.sizeOf104 css hlen hone (fun x y => cmpMR a[x] a[y]) (swo_MR fun i => a[i]) 102 #[] b off c (Array.ofFn fun i : Fin a.length => i) w en_102
      (fun m os dk _ x y => (impl_compareMultiRulesG (css x) a[x] (css y) a[y] _ (hR dk m os x) (hR dk m os y)).mono fun e w' ⟨h1, h2⟩ => ⟨h1, h2⟩) hH hlt (by rw [Array.size_ofFn]; omega)
    rw [Array.size_ofFn] at hc
    refine (show Calls Try.prog 106 #[.slice (some ⟨b, off, none⟩) a.length c, .func (.func 102) #[] #[]] w _ from hc).mono ?_
    rintro e w' ⟨rfl, d', n, os, hp, hs, rfl⟩
    obtain ⟨p1, p2, p3⟩ := hp
    have hd : d'.size = a.length := by rw [p1, Array.size_ofFn]
    have hp' : d'.toList.Perm (List.ofFn fun i : Fin a.length => i) := by
      have e1 : d'.extract 0 a.length = d' := by have := Array.extract_size (xs := d'); rwa [hd] at this
      have e2 : (Array.ofFn fun i : Fin a.length => i).extract 0 a.length = Array.ofFn fun i : Fin a.length => i := by
        have := Array.extract_size (xs := Array.ofFn fun i : Fin a.length => i); rwa [Array.size_ofFn] at this
      rw [e1, e2, Array.toList_ofFn] at p3; exact p3
    obtain ⟨h1, h2⟩ := hput d' n os hp'
    have hperm : (d'.toList.map fun i => a[i]).Perm a := by
      have := hp'.map fun i : Fin a.length => a[i]
      rw [List.map_ofFn] at this
      exact this.trans (by rw [show ((fun i : Fin a.length => a[i]) ∘ fun i => i) = fun i : Fin a.length => a[i.val] from rfl, List.ofFn_getElem])
    have hap : apartMR (d'.toList.map fun i => a[i]) := List.Perm.pairwise hperm.symm s1 (fun {x y} hxy => by have := cmpMR_anti x y; omega)
    have hup : upMR (d'.toList.map fun i => a[i]) := by
      refine List.pairwise_iff_getElem.2 fun i j hi hj hij => ?_
      have q1 := List.pairwise_iff_getElem.1 hap i j hi hj hij
      rw [List.length_map, Array.length_toList] at hi hj
      have q2 := hs i j (Nat.zero_le _) hij (by omega)
      rw [getElem!_pos d' i hi, getElem!_pos d' j hj] at q2
      simp only [ltOf, decide_eq_false_iff_not] at q2
      simp only [List.getElem_map, Array.getElem_toList] at q1 ⊢
      have q3 := cmpMR_anti a[d'[i]] a[d'[j]]
      omega
    have hfin : (d'.toList.map fun i => a[i]) = sortMR a := upMR_one hup (sortMR_up s1) (hperm.trans (sortMR_perm a).symm)
    rw [hfin] at h1
    exact ⟨S, rfl, HM.mut (i := 0) rfl h2 (rSo eMultiRule S (some ⟨b, off, none⟩) c (sortMR a)) (oSl h1) fun _ hb => .inl hb⟩

def palS : Nat → List tMultiRule
  | 0 => putMR (putMR (putMR [] (two7 0 0 0 0 (-1) 0 1)) (two7 1 0 0 0 1 (-1) 2)) (two7 2 0 0 0 0 0 3)
  | k + 1 => putMR (putMR (putMR (palS k) (two7 0 ((k : Int) + 1) 0 ((k : Int) + 1) 1 1 0)) (two7 1 ((k : Int) + 1) 0 0 (-1) 0 1)) (two7 2 ((k : Int) + 1) ((k : Int) + 1) ((k : Int) + 1) 1 (-1) 2)

theorem palS_len : ∀ k, (palS k).length = 3 * k + 3
  | 0 => by simp only [palS, putMR_len, List.length_nil]
  | k + 1 => by simp only [palS, putMR_len, palS_len k]; omega

def palI (s : Int) : Nat → List tMultiRule
  | 0 => copyRls s ++ [two6 0 0 0 (-1) 0 1, two6 1 0 0 1 (-1) 2, two6 2 0 0 0 0 3]
  | k + 1 => palI s k ++ [two6 1 ((k : Int) + 1) 0 (-1) 0 1, two6 2 ((k : Int) + 1) ((k : Int) + 1) 1 (-1) 2]

theorem palI_len (s : Int) : ∀ k, (palI s k).length = (s - 1).toNat + 3 + 2 * k
  | 0 => by rw [palI, List.length_append]; unfold copyRls; rw [copyTo_len]; rfl
  | k + 1 => by rw [palI, List.length_append, palI_len s k]; simp only [List.length_cons, List.length_nil]; omega

theorem palI_apart {s : Int} {k : Nat} (h : (s = 2 ∧ k = 1) ∨ (s = 3 ∧ k = 2)) : apartMR (palI s k) := by
  rcases h with ⟨rfl, rfl⟩ | ⟨rfl, rfl⟩ <;> (unfold apartMR; decide +kernel)

def sortMulti (m : tMulti) : tMulti := (m.1, m.2.1, m.2.2.1, sortMR m.2.2.2)

set_option maxRecDepth 100000 in
set_option maxHeartbeats 4000000 in
theorem impl_sortRules (M : Nat → Prop) (p0 : Nat) (es0 : List Value) (a0 : tMulti) (S0 : Nat → Prop) (w : World) (HM : Held M w [rBlk p0 55 es0, rO eMulti S0 es0 a0] w) (s0 : a0.2.2.2.length ≤ 1000000) (s1 : apartMR a0.2.2.2) :
    Calls Try.prog 73 #[.pointer (some ⟨p0, 0, none⟩)] w fun e w' => ∃ (es0' : List Value) (S0' : Nat → Prop), e = .returned (.tuple #[]) ∧ Held M w [rBlk p0 55 es0', rO eMulti S0' es0' (sortMulti a0)] w' := by
  have HH1 := HM
  have R0 := HH1.rd (i := 1) rfl
  obtain ⟨Az0_3, cz0_3, rfl, gz0_0, gz0_1, gz0_2, gz0_3⟩ := shape_Multi R0
  have jz0_0 := gz0_0; unfold I64 at jz0_0
  have jz0_1 := gz0_1; unfold I64 at jz0_1
  have jz0_2 := gz0_2; unfold I64 at jz0_2
  have lz0_3 := gz0_3.len
  clear R0
  have HH2 := HH1.sel [1, 0] (by decide) rfl
  have HH3 := HH2.unF rfl
  have HH4 := HH3.unF rfl
  have HH5 := HH4.unF rfl
  refine enter (n := 7) Try.func73 rfl rfl rfl fun a_6 HE7 => ?_
  refine rg ?_
  refine pl_x HE7 HH5 (wt0 rfl) (x_move rfl) rfl rfl fun a_8 HE9 => ?_
  refine pl_x HE9 HH5 (wt0 rfl) (x_nilCheck rfl) rfl rfl fun a_10 HE11 => ?_
  refine pl_x HE11 HH5 (wt0 rfl) (x_fieldAddr fa_55_3 rfl) rfl rfl fun a_12 HE13 => ?_
  refine pl_x HE13 HH5 (wt0 rfl) (x_load1 tv_53 rfl (c_blk 1 rfl rfl)) rfl rfl fun a_14 HE15 => ?_
  refine pl fun K_16 hK17 => ?_
  have HH18 : Held M w ([rSo eMultiRule S0 Az0_3 cz0_3 a0.2.2.2] ++ [rBlk p0 55 [.int .i64 (a0.1), .int .i64 (a0.2.1), .int .i64 (a0.2.2.1), .slice Az0_3 (a0.2.2.2.length) cz0_3]]) _ := HH5
  refine st_call HE15 (wt0 rfl) rfl rfl rfl en_106 rfl rfl (SortFunc_MR (Foot [rSo eMultiRule S0 Az0_3 cz0_3 a0.2.2.2]) _ _ a0.2.2.2 _ _ HH18.focus (by omega) (by first | assumption | exact pal_apart ‹_›)) fun e w' hr => ?_
  obtain ⟨Sr21_0, rfl, hbr21⟩ := hr
  have HH19 := HH18.back hbr21
  clear hbr21
  have HH20 : Held M w ([rSo eMultiRule Sr21_0 Az0_3 cz0_3 (sortMR a0.2.2.2)] ++ [rBlk p0 55 [.int .i64 (a0.1), .int .i64 (a0.2.1), .int .i64 (a0.2.2.1), .slice Az0_3 (a0.2.2.2.length) cz0_3]]) _ := HH19
  refine ⟨_, rfl, fun a_21 HE22 => hK17 _ _ ?_⟩
  refine wpList_nil ?_
  clear HH1 HH2 HH3 HH4 a_6 HE7 a_8 HE9 a_10 HE11 a_12 HE13 HH5 HH18 HH19 a_14 HE15 hK17 K_16
  refine fin0 HE22 rfl ?_
  have HH23 := HH20.relen (n := a0.2.2.2.length) (by first | exact sortMR_len _ | exact mkL_len _ _ _ _ | (simp; done) | (simp; omega))
  have HH24 := HH23.pairF (E := eInt) (c1 := [.int .i64 (a0.2.2.1)]) (x := a0.2.2.1) (oI (by exact ⟨by omega, by omega⟩))
  have HH25 := HH24.pairF (E := eInt) (c1 := [.int .i64 (a0.2.1)]) (x := a0.2.1) (oI (by exact ⟨by omega, by omega⟩))
  have HH26 := HH25.pairF (E := eInt) (c1 := [.int .i64 (a0.1)]) (x := a0.1) (oI (by exact ⟨by omega, by omega⟩))
  obtain ⟨S22, HH27⟩ : ∃ S, Held M w (rO eMulti S [.int .i64 (a0.1), .int .i64 (a0.2.1), .int .i64 (a0.2.2.1), .slice Az0_3 (a0.2.2.2.length) cz0_3] (a0.1, a0.2.1, a0.2.2.1, (sortMR a0.2.2.2)) :: _) _ := ⟨_, HH26⟩
  have hF : (sortMulti a0) = (a0.1, a0.2.1, a0.2.2.1, (sortMR a0.2.2.2)) := by
    rfl
  exact ⟨_, _, rfl, by rw [hF]; exact HH27.sel [1, 0] (by decide) rfl⟩

theorem fill_perm {α : Type} : ∀ {l l' : List α}, l.Nodup → (∀ x ∈ l, x ∈ l') → l'.length ≤ l.length → l.Perm l'
  | [], l', _, _, h => by
    have : l' = [] := List.eq_nil_of_length_eq_zero (by simpa using h)
    subst this; exact .refl _
  | x :: l, l', hn, hs, h => by
    obtain ⟨s, t, rfl⟩ := List.append_of_mem (hs x List.mem_cons_self)
    obtain ⟨h1, h2⟩ := List.nodup_cons.1 hn
    have ih : l.Perm (s ++ t) := fill_perm h2 (fun y hy => by
      have h3 := hs y (List.mem_cons_of_mem _ hy)
      rcases List.mem_append.1 h3 with h4 | h4
      · exact List.mem_append_left _ h4
      · rcases List.mem_cons.1 h4 with rfl | h4
        · exact absurd hy h1
        · exact List.mem_append_right _ h4) (by simp at h ⊢; omega)
    exact (ih.cons x).trans List.perm_middle.symm

def upTo (n : Nat) : List Int := (List.range n).map fun (i : Nat) => (i : Int)

theorem mem_upTo {n : Nat} {x : Int} : x ∈ upTo n ↔ 0 ≤ x ∧ x < n := by
  unfold upTo
  simp only [List.mem_map, List.mem_range]
  constructor
  · rintro ⟨i, hi, rfl⟩; omega
  · rintro ⟨h1, h2⟩; exact ⟨x.toNat, by omega, by omega⟩

theorem upTo_len (n : Nat) : (upTo n).length = n := by simp [upTo]

theorem order_perm {o : List Int} {n : Int} (h : orderB o n = true) : o.Perm (upTo o.length) := by
  obtain ⟨h1, h2, h3⟩ := (order_iff o n).1 h
  exact fill_perm h3 (fun x hx => mem_upTo.2 (by have := h2 x hx; omega)) (by rw [upTo_len]; omega)

theorem order_has {o : List Int} {n : Int} (h : orderB o n = true) {x : Int} (h0 : 0 ≤ x) (h1 : x < n) : x ∈ o := by
  have := ((order_iff o n).1 h).1
  exact (order_perm h).mem_iff.2 (mem_upTo.2 (by omega))

def pkI (xs : List Int) (i : Int) : Int := xs[i.toNat]?.getD 0

def permL (xs o : List Int) : List Int := o.map (pkI xs)

def permMR (o : List Int) (r : tMultiRule) : tMultiRule := (r.1, permL r.2.1 o, permL r.2.2.1 o, permL r.2.2.2.1 o, r.2.2.2.2)

theorem sortMR_snoc (l : List tMultiRule) (r : tMultiRule) : sortMR (l ++ [r]) = putMR (sortMR l) r := by
  unfold sortMR; rw [List.foldl_append]; rfl

theorem validMulti_rule {m : tMulti} (h : validMulti m = true) {i : Nat} (hi : i < m.2.2.2.length) : (((m.2.2.2[i]).2.1.length : Int) = m.1 ∧ ((m.2.2.2[i]).2.2.1.length : Int) = m.1 ∧ ((m.2.2.2[i]).2.2.2.1.length : Int) = m.1) ∧ (0 < i → cmpMR (m.2.2.2[i - 1]?.getD default) m.2.2.2[i] < 0) := by
  unfold validMulti at h
  simp only [Bool.and_eq_true, Bool.not_eq_true', List.any_eq_false] at h
  have hb := h.2 i (List.mem_range.2 hi)
  unfold badMR at hb
  rw [List.getElem?_eq_getElem hi, Option.getD_some] at hb
  simp only [Bool.or_eq_true, Bool.and_eq_true, Bool.not_eq_true', decide_eq_true_eq, not_or, not_and, Bool.not_eq_false] at hb
  obtain ⟨h1, h2⟩ := hb
  unfold validMR at h1
  simp only [Bool.and_eq_true, beq_iff_eq] at h1
  refine ⟨⟨h1.1.1.1.1.1.2, h1.1.1.1.1.2, h1.1.1.1.2⟩, fun h3 => ?_⟩
  have h4 := h2 h3
  unfold beforeMR at h4
  simpa using h4

theorem validMulti_up {m : tMulti} (h : validMulti m = true) : upMR m.2.2.2 := by
  refine List.pairwise_iff_getElem.2 fun i j hi hj hij => ?_
  obtain ⟨d, rfl⟩ : ∃ d, j = i + d + 1 := ⟨j - i - 1, by omega⟩
  induction d with
  | zero =>
    have := (validMulti_rule h hj).2 (by omega)
    rw [show i + 0 + 1 - 1 = i by omega, List.getElem?_eq_getElem hi, Option.getD_some] at this
    exact this
  | succ d ih =>
    have h1 := ih (by omega) (by omega)
    have h2 := (validMulti_rule h hj).2 (by omega)
    rw [show i + (d + 1) + 1 - 1 = i + d + 1 by omega, List.getElem?_eq_getElem (by omega), Option.getD_some] at h2
    exact cmpMR_trans h1 h2

theorem permL_inj {o a b : List Int} {n : Int} (h : orderB o n = true) (ha : (a.length : Int) = n) (hb : (b.length : Int) = n) (he : permL a o = permL b o) : a = b := by
  refine List.ext_getElem (by omega) fun i hi hj => ?_
  have hm := order_has h (x := (i : Int)) (by omega) (by omega)
  have := List.map_inj_left.1 he (i : Int) hm
  unfold pkI at this
  rw [Int.toNat_natCast, List.getElem?_eq_getElem hi, List.getElem?_eq_getElem hj] at this
  simpa using this

theorem perm_apart {m : tMulti} {o : List Int} (h : validMulti m = true) (ho : orderB o m.1 = true) : apartMR (m.2.2.2.map (permMR o)) := by
  refine List.pairwise_map.2 (List.pairwise_iff_getElem.2 fun i j hi hj hij h0 => ?_)
  have h1 := List.pairwise_iff_getElem.1 (validMulti_up h) i j hi hj hij
  have hi' := (validMulti_rule h hi).1
  have hj' := (validMulti_rule h hj).1
  obtain ⟨e1, e2⟩ := cmpMR_zero.1 h0
  have e3 := permL_inj ho hi'.1 hj'.1 e2
  have := (cmpMR_zero (a := m.2.2.2[i]) (b := m.2.2.2[j])).2 ⟨e1, e3⟩
  omega

theorem take_snocI {α : Type} {l : List α} {k : Nat} {x : α} (h : l[k]? = some x) : l.take (k + 1) = l.take k ++ [x] := by
  obtain ⟨hk, rfl⟩ := List.getElem?_eq_some_iff.1 h
  exact List.take_succ_eq_append_getElem hk

def padK (st : Int) (r : List Int) : tKey := (st, r[0]?.getD 0, r[1]?.getD 0, r[2]?.getD 0)

def ruleK (r : tMultiRule) : tKey := padK r.1 r.2.1

/-- All lists with the symbols below S from place k on, those that are keys left out, put behind l. -/
def fillF (ks : List tKey) (st : Int) (T S : Nat) : Nat → Nat → List Int → List (List Int) → List Int × List (List Int)
  | 0, _, b, l => (b, l)
  | f + 1, k, b, l =>
    if k = T then (b, if padK st b ∈ ks then l else l ++ [b])
    else (((List.range S).foldl (fun p (v : Nat) => fillF ks st T S f (k + 1) (p.1.set k (v : Int)) p.2) (b, l)).1.set k (S : Int), ((List.range S).foldl (fun p (v : Nat) => fillF ks st T S f (k + 1) (p.1.set k (v : Int)) p.2) (b, l)).2)

def fillN (ks : List tKey) (st : Int) (T S f k : Nat) (b : List Int) (l : List (List Int)) (v : Nat) : List Int × List (List Int) :=
  (List.range v).foldl (fun p (v : Nat) => fillF ks st T S f (k + 1) (p.1.set k (v : Int)) p.2) (b, l)

theorem fillN_succ (ks : List tKey) (st : Int) (T S f k : Nat) (b : List Int) (l : List (List Int)) (v : Nat) :
    fillN ks st T S f k b l (v + 1) = fillF ks st T S f (k + 1) ((fillN ks st T S f k b l v).1.set k (v : Int)) (fillN ks st T S f k b l v).2 := by
  unfold fillN
  rw [List.range_succ, List.foldl_append]; rfl

theorem fillF_top {ks : List tKey} {st : Int} {T S f k : Nat} {b : List Int} {l : List (List Int)} (h : k = T) : fillF ks st T S (f + 1) k b l = (b, if padK st b ∈ ks then l else l ++ [b]) := by
  rw [fillF, if_pos h]

theorem fillF_go {ks : List tKey} {st : Int} {T S f k : Nat} {b : List Int} {l : List (List Int)} (h : ¬ k = T) : fillF ks st T S (f + 1) k b l = ((fillN ks st T S f k b l S).1.set k (S : Int), (fillN ks st T S f k b l S).2) := by
  rw [fillF, if_neg h]; rfl

theorem fillF_len (ks : List tKey) (st : Int) (T S : Nat) : ∀ (f k : Nat) (b : List Int) (l : List (List Int)), (fillF ks st T S f k b l).1.length = b.length
  | 0, _, _, _ => rfl
  | f + 1, k, b, l => by
    by_cases h : k = T
    · rw [fillF_top h]
    · rw [fillF_go h, List.length_set]
      have key : ∀ v, (fillN ks st T S f k b l v).1.length = b.length := by
        intro v
        induction v with
        | zero => rfl
        | succ v ih => rw [fillN_succ, fillF_len ks st T S f, List.length_set, ih]
      exact key S

theorem fillN_len (ks : List tKey) (st : Int) (T S f k : Nat) (b : List Int) (l : List (List Int)) (v : Nat) : (fillN ks st T S f k b l v).1.length = b.length := by
  induction v with
  | zero => rfl
  | succ v ih => rw [fillN_succ, fillF_len, List.length_set, ih]

theorem fillF_keep (ks : List tKey) (st : Int) (T S : Nat) : ∀ (f k : Nat) (b : List Int) (l : List (List Int)) (j : Nat), j < k → (fillF ks st T S f k b l).1[j]? = b[j]?
  | 0, _, _, _, _, _ => rfl
  | f + 1, k, b, l, j, hj => by
    by_cases h : k = T
    · rw [fillF_top h]
    · rw [fillF_go h, List.getElem?_set_ne (by omega)]
      have key : ∀ v, (fillN ks st T S f k b l v).1[j]? = b[j]? := by
        intro v
        induction v with
        | zero => rfl
        | succ v ih => rw [fillN_succ, fillF_keep ks st T S f (k + 1) _ _ j (by omega), List.getElem?_set_ne (by omega), ih]
      exact key S

theorem fillF_room (ks : List tKey) (st : Int) (T S : Nat) : ∀ (f k : Nat) (b : List Int) (l : List (List Int)), k ≤ T → T < f + k → (fillF ks st T S f k b l).2.length ≤ l.length + S ^ (T - k)
  | 0, k, _, _, h1, h2 => by omega
  | f + 1, k, b, l, h1, h2 => by
    by_cases h : k = T
    · rw [fillF_top h, h, Nat.sub_self, Nat.pow_zero]
      split
      · simp only; omega
      · simp only [List.length_append, List.length_cons, List.length_nil]; omega
    · rw [fillF_go h]
      have key : ∀ v, (fillN ks st T S f k b l v).2.length ≤ l.length + v * S ^ (T - (k + 1)) := by
        intro v
        induction v with
        | zero => simp [fillN]
        | succ v ih =>
          have h3 := fillF_room ks st T S f (k + 1) ((fillN ks st T S f k b l v).1.set k (v : Int)) (fillN ks st T S f k b l v).2 (by omega) (by omega)
          rw [fillN_succ, Nat.succ_mul]
          omega
      have h4 := key S
      have e : S * S ^ (T - (k + 1)) = S ^ (T - k) := by
        rw [show T - k = (T - (k + 1)) + 1 from by omega, Nat.pow_succ, Nat.mul_comm]
      rw [e] at h4
      exact h4

theorem fillN_room {ks : List tKey} {st : Int} {T S f k : Nat} {b : List Int} {l : List (List Int)} {B v : Nat} (h1 : k < T) (h2 : T < f + (k + 1)) (hv : v < S) (hB : l.length + S ^ (T - k) ≤ B) : (fillN ks st T S f k b l v).2.length + S ^ (T - (k + 1)) ≤ B := by
  have key : ∀ v, (fillN ks st T S f k b l v).2.length ≤ l.length + v * S ^ (T - (k + 1)) := by
    intro v
    induction v with
    | zero => simp [fillN]
    | succ v ih =>
      have h3 := fillF_room ks st T S f (k + 1) ((fillN ks st T S f k b l v).1.set k (v : Int)) (fillN ks st T S f k b l v).2 (by omega) (by omega)
      rw [fillN_succ, Nat.succ_mul]
      omega
  have h4 := key v
  have e : S ^ (T - k) = S * S ^ (T - (k + 1)) := by
    rw [show T - k = (T - (k + 1)) + 1 from by omega, Nat.pow_succ, Nat.mul_comm]
  have h5 : (v + 1) * S ^ (T - (k + 1)) ≤ S * S ^ (T - (k + 1)) := Nat.mul_le_mul_right _ (by omega)
  rw [Nat.succ_mul] at h5
  omega

theorem fillN_at {ks : List tKey} {st : Int} {T S f k : Nat} {b : List Int} {l : List (List Int)} {v : Nat} (h : k < b.length) : (fillF ks st T S f (k + 1) ((fillN ks st T S f k b l v).1.set k (v : Int)) (fillN ks st T S f k b l v).2).1[k]? = some (v : Int) := by
  rw [fillF_keep ks st T S f (k + 1) _ _ k (by omega), List.getElem?_set_self (by rw [fillN_len]; exact h)]

theorem pow_room {S T : Nat} (h1 : S ≤ 100) (h2 : T ≤ 3) : ([] : List (List Int)).length + S ^ (T - 0) ≤ 1000000 := by
  have e : S ^ (T - 0) ≤ 100 ^ 3 := Nat.le_trans (Nat.pow_le_pow_left h1 _) (Nat.pow_le_pow_right (by omega) (by omega))
  simpa using e

def hReads (m : tMulti) (st : Int) : List (List Int) := (fillF (m.2.2.2.map ruleK) st m.1.toNat m.2.1.toNat (m.1.toNat + 1) 0 (List.replicate m.1.toNat 0) []).2

theorem eqLi_iff {x y : List Int} : eq_L x y = true ↔ x = y := ⟨fun h => eqL_eq (fun a b hab => by simpa [eq_i] using hab) x y h, fun h => by rw [h]; exact eq_L_refl y⟩

/-- All lists of t symbols below S, in order. -/
def allF (S : Nat) : Nat → List (List Int)
  | 0 => [[]]
  | t + 1 => (List.range S).flatMap fun (u : Nat) => (allF S t).map fun r => (u : Int) :: r

/-- Those that begin with v or more. -/
def upsF (S v t : Nat) : List (List Int) := (List.range' v (S - v)).flatMap fun (u : Nat) => (allF S t).map fun r => (u : Int) :: r

/-- Those from r on. -/
def seqF (S : Nat) : List Int → List (List Int)
  | [] => [[]]
  | v :: rs => ((seqF S rs).map fun r => v :: r) ++ upsF S (v.toNat + 1) rs.length

theorem allF_ups (S t : Nat) : allF S (t + 1) = upsF S 0 t := by
  unfold upsF
  rw [allF, List.range_eq_range', Nat.sub_zero]

theorem upsF_cons {S v : Nat} (t : Nat) (h : v < S) : upsF S v t = ((allF S t).map fun r => (v : Int) :: r) ++ upsF S (v + 1) t := by
  unfold upsF
  obtain ⟨n, hn⟩ : ∃ n, S - v = n + 1 := ⟨S - v - 1, by omega⟩
  rw [hn, show S - (v + 1) = n from by omega, List.range'_succ, List.flatMap_cons]

theorem upsF_nil {S v : Nat} (t : Nat) (h : S ≤ v) : upsF S v t = [] := by
  unfold upsF
  rw [show S - v = 0 from by omega]; rfl

theorem seqF_zero {S : Nat} (h : 0 < S) : ∀ t, seqF S (List.replicate t 0) = allF S t
  | 0 => rfl
  | t + 1 => by
    rw [List.replicate_succ, seqF, seqF_zero h t, allF_ups, upsF_cons t h, List.length_replicate]; rfl

theorem seqF_last {S : Nat} : ∀ {r : List Int}, (∀ x ∈ r, x = (S : Int) - 1) → 0 < S → seqF S r = [r]
  | [], _, _ => rfl
  | v :: r, h, hS => by
    have hv := h v (by simp)
    rw [seqF, seqF_last (fun x hx => h x (by simp [hx])) hS, upsF_nil _ (by omega)]; rfl

theorem seqF_next {S : Nat} {x : Int} {q : List Int} (h0 : 0 ≤ x) (h1 : x < (S : Int) - 1) (hq : ∀ y ∈ q, y = (S : Int) - 1) : ∀ p : List Int, seqF S (p ++ x :: q) = (p ++ x :: q) :: seqF S (p ++ (x + 1) :: List.replicate q.length 0)
  | [] => by
    rw [List.nil_append, List.nil_append, seqF, seqF_last hq (by omega), upsF_cons _ (by omega), seqF, seqF_zero (by omega), List.length_replicate]
    rw [show (((x.toNat + 1 : Nat)) : Int) = x + 1 from by omega, show (x + 1).toNat + 1 = x.toNat + 1 + 1 from by omega]; rfl
  | v :: p => by
    rw [List.cons_append, List.cons_append, seqF, seqF_next h0 h1 hq p, List.map_cons, seqF]
    simp

/-- Those of a list that are no keys. -/
def goodL (ks : List tKey) (st : Int) (l : List (List Int)) : List (List Int) := l.filter fun r => decide (¬ padK st r ∈ ks)

theorem goodL_app (ks : List tKey) (st : Int) (a b : List (List Int)) : goodL ks st (a ++ b) = goodL ks st a ++ goodL ks st b := List.filter_append _ _

theorem fillF_eq (ks : List tKey) (st : Int) (T S : Nat) : ∀ (f k : Nat) (b : List Int) (l : List (List Int)), k ≤ T → T < f + k → b.length = T →
    (fillF ks st T S f k b l).2 = l ++ goodL ks st ((allF S (T - k)).map fun r => b.take k ++ r)
  | 0, k, _, _, h1, h2, _ => by omega
  | f + 1, k, b, l, h1, h2, hl => by
    by_cases h : k = T
    · rw [fillF_top h, h, Nat.sub_self]
      simp only [allF, List.map_cons, List.map_nil, List.append_nil]
      rw [List.take_of_length_le (by omega)]
      unfold goodL
      split
      · rename_i hk; simp [hk]
      · rename_i hk; simp [hk]
    · rw [fillF_go h]
      have key : ∀ v, (fillN ks st T S f k b l v).2 = l ++ goodL ks st (((List.range v).flatMap fun (u : Nat) => (allF S (T - (k + 1))).map fun r => (u : Int) :: r).map fun r => b.take k ++ r) ∧ (fillN ks st T S f k b l v).1.take k = b.take k := by
        intro v
        induction v with
        | zero => exact ⟨by simp [fillN, goodL], rfl⟩
        | succ v ih =>
          have hlen := fillN_len ks st T S f k b l v
          have hset : ((fillN ks st T S f k b l v).1.set k (v : Int)).take (k + 1) = b.take k ++ [(v : Int)] := by
            rw [List.take_succ_eq_append_getElem (by rw [List.length_set]; omega), List.getElem_set_self, List.take_set_of_le (Nat.le_refl _), ih.2]
          have h3 := fillF_eq ks st T S f (k + 1) ((fillN ks st T S f k b l v).1.set k (v : Int)) (fillN ks st T S f k b l v).2 (by omega) (by omega) (by rw [List.length_set]; omega)
          rw [fillN_succ]
          refine ⟨?_, ?_⟩
          · rw [h3, ih.1, List.append_assoc, ← goodL_app, List.range_succ, List.flatMap_append, List.map_append, hset]
            simp [List.flatMap_cons, Function.comp_def]
          · apply List.ext_getElem?
            intro j
            by_cases hj : j < k
            · rw [List.getElem?_take_of_lt hj, List.getElem?_take_of_lt hj, fillF_keep ks st T S f (k + 1) _ _ j (by omega), List.getElem?_set_ne (by omega), ← List.getElem?_take_of_lt hj, ih.2, List.getElem?_take_of_lt hj]
            · rw [List.getElem?_eq_none (by rw [List.length_take]; omega), List.getElem?_eq_none (by rw [List.length_take]; omega)]
      rw [(key S).1, show T - k = (T - (k + 1)) + 1 from by omega, allF]

theorem hReads_eq (m : tMulti) (st : Int) : hReads m st = goodL (m.2.2.2.map ruleK) st (allF m.2.1.toNat m.1.toNat) := by
  unfold hReads
  rw [fillF_eq _ _ _ _ _ _ _ _ (by omega) (by omega) (by simp)]
  simp

theorem padK_inj {s t : Int} {a b : List Int} (hl : a.length = b.length) (h3 : a.length ≤ 3) : padK s a = padK t b ↔ s = t ∧ a = b := by
  constructor
  · intro h
    unfold padK at h
    simp only [Prod.mk.injEq] at h
    refine ⟨h.1, List.ext_getElem? fun i => ?_⟩
    by_cases hi : i < a.length
    · have e : a[i]?.getD 0 = b[i]?.getD 0 := by
        rcases i with _ | _ | _ | i
        · exact h.2.1
        · exact h.2.2.1
        · exact h.2.2.2
        · omega
      rw [List.getElem?_eq_getElem hi, List.getElem?_eq_getElem (by omega)] at e ⊢
      simpa using e
    · rw [List.getElem?_eq_none (by omega), List.getElem?_eq_none (by omega)]
  · rintro ⟨rfl, rfl⟩; rfl

def hitM (st : Int) (r : List Int) (x : tMultiRule) : Bool := decide (x.1 = st) && eq_L x.2.1 r

def ruleI (l : List tMultiRule) (st : Int) (r : List Int) : Int := if l.any (hitM st r) = true then (l.findIdx (hitM st r) : Int) else -1

theorem ruleI_hit {l : List tMultiRule} {st : Int} {r : List Int} {k : Nat} (hk : k < l.length) (hno : (l.take k).any (hitM st r) = false) (h : hitM st r l[k] = true) : ruleI l st r = (k : Int) := by
  unfold ruleI
  rw [if_pos (List.any_eq_true.2 ⟨l[k], List.getElem_mem _, h⟩)]
  have : l.findIdx (hitM st r) = k := (List.findIdx_eq hk).2 ⟨h, fun j hj => by
    have h1 := List.any_eq_false.1 hno (l[j]) (List.mem_iff_getElem.2 ⟨j, by rw [List.length_take]; omega, by rw [List.getElem_take]⟩)
    simpa using h1⟩
  rw [this]

theorem ruleI_miss {l : List tMultiRule} {st : Int} {r : List Int} {k : Nat} (hk : l.length ≤ k) (hno : (l.take k).any (hitM st r) = false) : ruleI l st r = -1 := by
  rw [List.take_of_length_le hk] at hno
  unfold ruleI
  rw [if_neg (by rw [hno]; exact Bool.false_ne_true)]

theorem ruleI_neg {m : tMulti} {st : Int} {r : List Int} (hr : ∀ x ∈ m.2.2.2, x.2.1.length = r.length) (h3 : r.length ≤ 3) : ruleI m.2.2.2 st r < 0 ↔ ¬ padK st r ∈ m.2.2.2.map ruleK := by
  have key : m.2.2.2.any (hitM st r) = true ↔ padK st r ∈ m.2.2.2.map ruleK := by
    rw [List.any_eq_true, List.mem_map]
    constructor
    · rintro ⟨x, hx, h⟩
      unfold hitM at h
      rw [Bool.and_eq_true, decide_eq_true_eq, eqLi_iff] at h
      exact ⟨x, hx, by unfold ruleK; rw [h.1, h.2]⟩
    · rintro ⟨x, hx, h⟩
      unfold ruleK at h
      have h1 := (padK_inj (hr x hx) (by rw [hr x hx]; exact h3)).1 h
      refine ⟨x, hx, ?_⟩
      unfold hitM
      rw [Bool.and_eq_true, decide_eq_true_eq, eqLi_iff]
      exact h1
  unfold ruleI
  rw [← key]
  split
  · rename_i h
    simp only [h, not_true_eq_false, iff_false]
    omega
  · rename_i h
    simp [h]

theorem goodL_cons {ks : List tKey} {st : Int} {r : List Int} {l : List (List Int)} : goodL ks st (r :: l) = (if padK st r ∈ ks then [] else [r]) ++ goodL ks st l := by
  unfold goodL
  rw [List.filter_cons]
  split
  · rename_i h; simp at h; simp [h]
  · rename_i h; simp at h; simp [h]

def rowZ (r : List Int) (v : Nat) : List Int := r.take v ++ List.replicate (r.length - v) 0

theorem rowZ_len (r : List Int) {v : Nat} (h : v ≤ r.length) : (rowZ r v).length = r.length := by
  unfold rowZ; rw [List.length_append, List.length_take, List.length_replicate]; omega

theorem rowZ_all (r : List Int) : rowZ r r.length = r := by unfold rowZ; simp

theorem rowZ_at {r : List Int} {v : Nat} (h : 0 < v) (h2 : v ≤ r.length) (h3 : v - 1 < (rowZ r v).length) : (rowZ r v)[v - 1] = r[v - 1]?.getD 0 := by
  have e : (rowZ r v)[v - 1]? = r[v - 1]? := by
    unfold rowZ
    rw [List.getElem?_append_left (by rw [List.length_take]; omega), List.getElem?_take_of_lt (by omega)]
  rw [List.getElem?_eq_getElem h3] at e
  rw [← e]; rfl

theorem rowZ_set {r : List Int} {v : Nat} {x : Int} (h : 0 < v) (h2 : v ≤ r.length) : (rowZ r v).set (v - 1) x = r.take (v - 1) ++ x :: List.replicate (r.length - v) 0 := by
  obtain ⟨j, rfl⟩ : ∃ j, v = j + 1 := ⟨v - 1, by omega⟩
  unfold rowZ
  rw [Nat.add_sub_cancel, List.take_succ_eq_append_getElem (by omega), List.append_assoc, List.set_append_right _ _ (by rw [List.length_take]; omega), List.length_take, show j - min j r.length = 0 from by omega]
  rfl

theorem rowZ_step {r : List Int} {v : Nat} (h : 0 < v) (h2 : v ≤ r.length) : rowZ r (v - 1) = (rowZ r v).set (v - 1) 0 := by
  rw [rowZ_set h h2]
  unfold rowZ
  rw [show r.length - (v - 1) = (r.length - v) + 1 from by omega, List.replicate_succ]

/-- All but the symbols behind v are the last ones: the next list. -/
theorem seqF_step {S v : Nat} {r : List Int} {y : Int} (hv : 0 < v) (h2 : v ≤ r.length) (hok : ∀ x ∈ r, 0 ≤ x ∧ x ≤ (S : Int) - 1) (hy : y = r[v - 1]?.getD 0) (hne : ¬ y = (S : Int) - 1) (hup : ∀ j, v ≤ j → j < r.length → r[j]?.getD 0 = (S : Int) - 1) :
    seqF S r = r :: seqF S ((rowZ r v).set (v - 1) (y + 1)) ∧ (∀ x ∈ (rowZ r v).set (v - 1) (y + 1), 0 ≤ x ∧ x ≤ (S : Int) - 1) := by
  have hlt : v - 1 < r.length := by omega
  rw [List.getElem?_eq_getElem hlt, Option.getD_some] at hy
  have hb := hok _ (List.getElem_mem hlt)
  have e : r = r.take (v - 1) ++ r[v - 1] :: r.drop v := by
    conv => lhs; rw [← List.take_append_drop (v - 1) r, List.drop_eq_getElem_cons hlt]
    rw [show v - 1 + 1 = v from by omega]
  have hq : ∀ z ∈ r.drop v, z = (S : Int) - 1 := by
    intro z hz
    obtain ⟨j, hj, rfl⟩ := List.getElem_of_mem hz
    rw [List.length_drop] at hj
    have := hup (v + j) (by omega) (by omega)
    rw [List.getElem?_eq_getElem (by omega : v + j < r.length), Option.getD_some] at this
    rw [List.getElem_drop]; exact this
  rw [rowZ_set hv h2]
  have h5 := seqF_next (x := r[v - 1]) (q := r.drop v) hb.1 (by omega) hq (r.take (v - 1))
  rw [← e, List.length_drop] at h5
  refine ⟨by rw [hy]; exact h5, fun x hx => ?_⟩
  rcases List.mem_append.1 hx with hx | hx
  · exact hok x (List.mem_of_mem_take hx)
  · rcases List.mem_cons.1 hx with rfl | hx
    · omega
    · rw [(List.mem_replicate.1 hx).2]; omega

theorem seqF_stop {S : Nat} {r : List Int} (hS : 0 < S) (hup : ∀ j, 0 ≤ j → j < r.length → r[j]?.getD 0 = (S : Int) - 1) : seqF S r = [r] := by
  refine seqF_last (fun x hx => ?_) hS
  obtain ⟨j, hj, rfl⟩ := List.getElem_of_mem hx
  have := hup j (Nat.zero_le _) hj
  rw [List.getElem?_eq_getElem hj, Option.getD_some] at this
  exact this

theorem up_step {r : List Int} {v : Nat} {x : Int} (hv : 0 < v) (h : ∀ j, v ≤ j → j < r.length → r[j]?.getD 0 = x) (h1 : r[v - 1]?.getD 0 = x) : ∀ j, v - 1 ≤ j → j < r.length → r[j]?.getD 0 = x := by
  intro j hj hl
  by_cases e : j = v - 1
  · rw [e]; exact h1
  · exact h j (by omega) hl

theorem allF_len (S : Nat) : ∀ t, (allF S t).length = S ^ t
  | 0 => rfl
  | t + 1 => by
    have key : ∀ n, ((List.range n).flatMap fun (u : Nat) => (allF S t).map fun r => (u : Int) :: r).length = n * S ^ t := by
      intro n
      induction n with
      | zero => simp
      | succ n ih => rw [List.range_succ, List.flatMap_append, List.length_append, ih, Nat.succ_mul]; simp [allF_len S t]
    rw [allF, key, Nat.pow_succ, Nat.mul_comm]

theorem validMulti_reads {m : tMulti} (h : validMulti m = true) : ∀ x ∈ m.2.2.2, x.2.1.length = m.1.toNat := by
  intro x hx
  obtain ⟨i, hi, rfl⟩ := List.getElem_of_mem hx
  have := (validMulti_rule h hi).1.1
  omega

theorem validMulti_reads3 {m : tMulti} (h : validMulti m = true) : ∀ x ∈ m.2.2.2, x.2.1.length ≤ 3 := by
  intro x hx
  have h1 := validMulti_reads h x hx
  have h2 := (validMulti_facts h).1
  omega

set_option maxRecDepth 100000 in
set_option maxHeartbeats 4000000 in
theorem impl_multiRules (es0 : List Value) (a0 : tMulti) (w : World) (h0 : eMulti.R w (Old w) es0 a0) (s0 : ∀ r ∈ a0.2.2.2, r.2.1.length ≤ 3) (s1 : a0.2.2.2.length ≤ 1000) :
    Calls Try.prog 103 #[.agg es0.toArray] w fun e w' => ∃ (g0' : Nat), e = .returned (.map (some g0')) ∧ Held Nob w [rMap g0' (a0.2.2.2.map ruleK)] w' := by
  have H0 := h0
  obtain ⟨Az0_3, cz0_3, rfl, gz0_0, gz0_1, gz0_2, gz0_3⟩ := shape_Multi h0
  have jz0_0 := gz0_0; unfold I64 at jz0_0
  have jz0_1 := gz0_1; unfold I64 at jz0_1
  have jz0_2 := gz0_2; unfold I64 at jz0_2
  have lz0_3 := gz0_3.len
  have HH1 := Held.start Nob w
  refine enter (n := 29) Try.func103 rfl rfl rfl fun a_2 HE3 => ?_
  refine wp_seq ?_
  refine rg ?_
  refine pl fun K_4 hK5 => ?_
  refine st_box (cs := [.int .i64 (a0.1), .int .i64 (a0.2.1), .int .i64 (a0.2.2.1), .slice Az0_3 (a0.2.2.2.length) cz0_3]) HE3 HH1 rfl rfl (wt0 rfl) rfl fun q21 a_6 w' HE7 HH8 => hK5 _ _ ?_
  refine pl_x HE7 HH8 (wt0 rfl) (x_assign rfl) rfl rfl fun a_9 HE10 => ?_
  refine wpList_nil ?_
  clear a_2 HE3 HH1 a_6 HE7 hK5 K_4
  refine nrm ?_
  refine wp_seq ?_
  refine rg ?_
  refine pl fun K_11 hK12 => ?_
  refine st_makeMap HE10 HH8 (wt0 rfl) rfl fun q22 a_13 w' HE14 HH15 => hK12 _ _ ?_
  refine pl_x HE14 HH15 (wt0 rfl) (x_assign rfl) rfl rfl fun a_16 HE17 => ?_
  refine wpList_nil ?_
  clear a_9 HE10 HH8 a_13 HE14 hK12 K_11
  refine nrm ?_
  refine wp_seq ?_
  refine wp_seq ?_
  refine rg ?_
  refine pl_x HE17 HH15 (wt0 rfl) (x_fieldAddr fa_55_3 rfl) rfl rfl fun a_18 HE19 => ?_
  refine pl_x HE19 HH15 (wt0 rfl) (x_load1 tv_53 rfl (c_blk 1 rfl rfl)) rfl rfl fun a_20 HE21 => ?_
  refine pl_x HE21 HH15 (wt0 rfl) (x_len Try.underlying53 rfl) rfl rfl fun a_22 HE23 => ?_
  refine pl_x HE23 HH15 (wt0 rfl) (x_move rfl) rfl rfl fun a_24 HE25 => ?_
  refine wpList_nil ?_
  clear a_16 HE17 a_18 HE19 a_20 HE21 a_22 HE23
  refine nrm ?_
  refine wp_block ?_
  refine lp (fun m a w' => ∃ (k : Nat), m = a0.2.2.2.length - k ∧ Env 29 [(11, .int .i64 (k : Int)), (3, .map (some q22)), (9, .slice Az0_3 (a0.2.2.2.length) cz0_3), (10, .int .i64 ((a0.2.2.2.length : Int)))] a ∧ Held Nob w [rMap q22 ((a0.2.2.2.take k).map ruleK), rBlk q21 55 [.int .i64 (a0.1), .int .i64 (a0.2.1), .int .i64 (a0.2.2.1), .slice Az0_3 (a0.2.2.2.length) cz0_3]] w' ∧ (k ≤ a0.2.2.2.length)) (a0.2.2.2.length - (0)) ?_ ?_
  · have E23 : (a0.2.2.2.take 0).map ruleK = [] := by rfl
    exact ⟨0, rfl, HE25.sub ⟨(lkI rfl (by first | rfl | omega | (simp []; done))), rfl, rfl, rfl, trivial⟩, ((HH15.sel [0, 1] (by decide) rfl).to (by first | rfl | (rw [E23]; done) | (rw [E23]; rfl) | (simp only [E23]; done) | (simp only [E23]; rfl) | (rw [E23]; simp only [List.length_set]; done))), (by first | omega | assumption | (simp; done) | simp_all)⟩
  · rintro m a_26 w' ⟨k, rfl, HE27, HH28, p24_0⟩
    have ol : ((a0.2.2.2.take k).map ruleK).length = k := by rw [List.length_map, List.length_take]; omega
    refine wp_seq ?_
    refine rg ?_
    refine pl_x HE27 HH28 (wt0 rfl) (x_lss rfl rfl) rfl rfl fun a_29 HE30 => ?_
    refine wpList_nil ?_
    clear a_24 HE25 HH15 a_26 HE27
    refine nrm ?_
    refine wp_seq ?_
    refine cnd_d HE30 rfl (fun hc25 => ?_) (fun hc25 => ?_)
    · refine wp_skip ?_
      refine nrm ?_
      refine wp_seq ?_
      refine wp_block ?_
      refine wp_seq ?_
      refine rg ?_
      refine pl_x HE30 HH28 (wt0 rfl) (x_move rfl) rfl rfl fun a_31 HE32 => ?_
      have ke26 : k < a0.2.2.2.length := by omega
      obtain ⟨be26, fe26, ese26, Ae26, Re26, De26⟩ := el_old gz0_3 ke26
      obtain ⟨e26, xe26⟩ : ∃ x_, x_ = a0.2.2.2[k] := ⟨_, rfl⟩
      rw [← xe26] at Re26
      have Qe26 := Re26
      obtain ⟨Ae26_1, ce26_1, Ae26_2, ce26_2, Ae26_3, ce26_3, rfl, ge26_0, ge26_1, ge26_2, ge26_3, ge26_4⟩ := shape_MultiRule Re26
      have je26_0 := ge26_0; unfold I64 at je26_0
      have le26_1 := ge26_1.len
      have le26_2 := ge26_2.len
      have le26_3 := ge26_3.len
      have je26_4 := ge26_4; unfold I64 at je26_4
      have hre26 := s0 e26 (by rw [xe26]; exact List.getElem_mem _)
      refine pl_x HE32 HH28 (wt0 rfl) (x_indexAddr ts_53 rfl rfl Ae26 rfl ke26) rfl rfl fun a_33 HE34 => ?_
      refine pl_x HE34 HH28 (wt0 rfl) (x_loadN (cs := [.int .i64 (e26.1), .slice Ae26_1 (e26.2.1.length) ce26_1, .slice Ae26_2 (e26.2.2.1.length) ce26_2, .slice Ae26_3 (e26.2.2.2.1.length) ce26_3, .int .i64 (e26.2.2.2.2)]) tv_104 rfl rfl (c_oldN De26)) rfl rfl fun a_35 HE36 => ?_
      refine pl fun K_37 hK38 => ?_
      refine st_alloc HE36 HH28 tv_104 (wt0 rfl) rfl fun q27 a_39 w' HE40 HH41 => hK38 _ _ ?_
      refine pl_x HE40 HH41 (wt0 rfl) (x_assign rfl) rfl rfl fun a_42 HE43 => ?_
      refine pl fun K_44 hK45 => ?_
      refine st_store (vs := [.int .i64 (e26.1), .slice Ae26_1 (e26.2.1.length) ce26_1, .slice Ae26_2 (e26.2.2.1.length) ce26_2, .slice Ae26_3 (e26.2.2.2.1.length) ce26_3, .int .i64 (e26.2.2.2.2)]) 0 HE43 HH41 tv_104 rfl rfl rfl rfl rfl rfl (by simp [Value.oneCell']) (wt0 rfl) fun w' HH46 => hK45 _ _ ?_
      refine wpList_nil ?_
      clear a_29 HE30 a_31 HE32 a_33 HE34 a_35 HE36 HH28 a_39 HE40 K_37 hK38 HH41 hK45 K_44
      refine nrm ?_
      refine wp_seq ?_
      refine rg ?_
      refine pl_x HE43 HH46 (wt0 rfl) (x_fieldAddr fa_104_0 rfl) rfl rfl fun a_47 HE48 => ?_
      refine pl_x HE48 HH46 (wt0 rfl) (x_load1 tv_2 rfl (c_blk 0 rfl rfl)) rfl rfl fun a_49 HE50 => ?_
      refine pl_x HE50 HH46 (wt0 rfl) (x_buildR rfl) rfl rfl fun a_51 HE52 => ?_
      refine pl fun K_53 hK54 => ?_
      refine st_alloc HE52 HH46 tv_137 (wt0 rfl) rfl fun q28 a_55 w' HE56 HH57 => hK54 _ _ ?_
      refine pl fun K_58 hK59 => ?_
      refine st_store (vs := [.int .i64 (e26.1), .int .i64 (0), .int .i64 (0), .int .i64 (0)]) 0 HE56 HH57 tv_137 rfl rfl rfl rfl rfl rfl (by simp [Value.oneCell']) (wt0 rfl) fun w' HH60 => hK59 _ _ ?_
      refine wpList_nil ?_
      clear a_42 HE43 a_47 HE48 a_49 HE50 a_51 HE52 HH46 K_53 hK54 HH57 hK59 K_58
      refine nrm ?_
      refine wp_seq ?_
      refine dr_start (Held Nob w [rBlk q27 104 [.int .i64 (e26.1), .slice Ae26_1 (e26.2.1.length) ce26_1, .slice Ae26_2 (e26.2.2.1.length) ce26_2, .slice Ae26_3 (e26.2.2.2.1.length) ce26_3, .int .i64 (e26.2.2.2.2)], rMap q22 ((a0.2.2.2.take k).map ruleK), rBlk q21 55 [.int .i64 (a0.1), .int .i64 (a0.2.1), .int .i64 (a0.2.2.1), .slice Az0_3 (a0.2.2.2.length) cz0_3]]) 5 #[false, false, false, false, false] hmix rfl rfl HH60 (fun _ h => h.sel [1, 2, 3] (by decide) rfl) fun w' HH61 => ?_
      have HS62 := HH61.sel [1, 2, 3] (by decide) rfl
      refine dr_take (i := 0) (ls' := #[true, false, false, false, false]) HE56 HS62 rfl (by kernel_rfl) (by kernel_rfl) (by kernel_rfl) (fun _ _ _ h => h) rfl (wt0 rfl) (x_fieldAddr fa_137_1 rfl) rfl rfl fun a_63 HE64 => ?_
      refine dr_take (i := 1) (ls' := #[true, true, false, false, false]) HE64 HS62 rfl (by kernel_rfl) (by kernel_rfl) (by kernel_rfl) (fun _ _ _ h => h) rfl (wt0 rfl) (x_sliceArr Try.underlying135 tv_2 rfl) rfl rfl fun a_65 HE66 => ?_
      refine dr_take (i := 2) (ls' := #[true, true, true, false, false]) HE66 HS62 rfl (by kernel_rfl) (by kernel_rfl) (by kernel_rfl) (fun _ _ _ h => h) rfl (wt0 rfl) (x_fieldAddr fa_104_1 rfl) rfl rfl fun a_67 HE68 => ?_
      refine dr_take (i := 3) (ls' := #[true, true, true, true, false]) HE68 HS62 rfl (by kernel_rfl) (by kernel_rfl) (by kernel_rfl) (fun _ _ _ h => h) rfl (wt0 rfl) (x_load1 tv_37 rfl (c_blk 0 rfl rfl)) rfl rfl fun a_69 HE70 => ?_
      refine dr_one (i := 4) (ls' := #[true, true, true, true, true]) rfl (by kernel_rfl) rfl fun K_71 hK72 => ?_
      refine st_copyA (ys := e26.2.1) 0 HE70 HH61 ts_37 rfl rfl rfl (by first | rfl | omega) (HH61.old ge26_1) (by omega) (wt0 rfl) rfl fun a_73 w' HE74 HH75 hI29 => hK72 _ _ (by exact HH75.sel [1, 2, 3] (by decide) rfl) ?_
      have HS76 := HH75.sel [1, 2, 3] (by decide) rfl
      refine dr_done (by kernel_rfl) ?_
      clear HH60 a_55 HE56 a_63 HE64 a_65 HE66 a_67 HE68 a_69 HE70 HH61 HS62 hK72 K_71
      refine nrm ?_
      refine rg ?_
      refine pl_x HE74 HH75 (wt0 rfl) (x_move rfl) rfl rfl fun a_77 HE78 => ?_
      refine pl_x HE78 HH75 (wt0 rfl) (x_loadN (cs := [.int .i64 (e26.1), .int .i64 ((e26.2.1[0]?.getD 0)), .int .i64 ((e26.2.1[1]?.getD 0)), .int .i64 ((e26.2.1[2]?.getD 0))]) tv_137 rfl rfl (c_blkN 0 rfl)) rfl rfl fun a_79 HE80 => ?_
      refine pl_x HE80 HH75 (wt0 rfl) (x_move rfl) rfl rfl fun a_81 HE82 => ?_
      refine pl fun K_83 hK84 => ?_
      refine st_mapUpdate (k := (e26.1, (e26.2.1[0]?.getD 0), (e26.2.1[1]?.getD 0), (e26.2.1[2]?.getD 0))) 2 HE82 HH75 rfl rfl rfl rfl ⟨⟨by omega, by omega⟩, hI29 0, hI29 1, hI29 2⟩ (by exact ⟨by omega, by omega⟩) (by unfold maxLen; omega) (wt0 rfl) fun w' HH85 => hK84 _ _ ?_
      refine wpList_nil ?_
      clear a_73 HE74 a_77 HE78 a_79 HE80 HH75 hK84 K_83
      refine blk_n ?_
      refine nrm ?_
      refine rg ?_
      refine pl_x HE82 HH85 (wt0 rfl) (x_add rfl rfl (by exact ⟨by omega, by omega⟩)) rfl rfl fun a_86 HE87 => ?_
      refine pl_x HE87 HH85 (wt0 rfl) (x_move rfl) rfl rfl fun a_88 HE89 => ?_
      refine wpList_nil ?_
      clear a_81 HE82 a_86 HE87
      have E30 : (a0.2.2.2.take (k + 1)).map ruleK = ((a0.2.2.2.take k).map ruleK ++ [(e26.1, (e26.2.1[0]?.getD 0), (e26.2.1[1]?.getD 0), (e26.2.1[2]?.getD 0))]) := by rw [List.take_succ_eq_append_getElem (by omega), List.map_append, ← xe26]; rfl
      exact nrm ⟨a0.2.2.2.length - (k + 1), (by omega), k + 1, rfl, HE89.sub ⟨(lkI rfl (by first | rfl | omega | (simp [p24_0, hc25, xe26]; done))), rfl, rfl, rfl, trivial⟩, ((HH85.sel [2, 3] (by decide) rfl).to (by first | rfl | (rw [E30]; done) | (rw [E30]; rfl) | (simp only [E30]; done) | (simp only [E30]; rfl) | (rw [E30]; simp only [List.length_set]; done))), (by first | omega | assumption | (simp; done) | simp_all)⟩
    · refine wp_exit ?_
      refine (thn_exit (thn_exit (blk_hit ?_)))
      refine nrm ?_
      refine wp_seq ?_
      refine rg ?_
      refine pl_x HE30 HH28 (wt0 rfl) (x_move rfl) rfl rfl fun a_90 HE91 => ?_
      refine pl_x HE91 HH28 (wt0 rfl) (x_assign rfl) rfl rfl fun a_92 HE93 => ?_
      refine wpList_nil ?_
      clear a_29 HE30 a_90 HE91
      refine nrm ?_
      refine wp_ret ?_
      refine ret1 HE93 rfl (rv_tmp rfl) ?_
      have hF : (a0.2.2.2.map ruleK) = (a0.2.2.2.take k).map ruleK := by
        rw [List.take_of_length_le (by omega)]
      exact ⟨_, by first | (rw [hF] <;> rfl) | rfl | (rw [hF]; simp only [Ending.returned.injEq, Value.slice.injEq, true_and, and_true]; first | omega | (simp; done)) | (rw [hF]; simp; omega), by rw [hF]; exact HH28.sel [0] (by decide) rfl⟩

set_option maxRecDepth 100000 in
set_option maxHeartbeats 4000000 in
theorem impl_fill1 (M : Nat → Prop) (a0 : Nat) (p1 : Nat) (es1 : List Value) (a1 : tMulti) (p2 : Nat) (es2 : List Value) (a2 : Int) (p3 : Nat) (A3 : Option Addr) (c3 n3 : Nat) (a3 : (List Int)) (S3 : Nat → Prop) (p4 g4 : Nat) (a4 : List tKey) (p5 : Nat) (A5 : Option Addr) (c5 : Nat) (a5 : (List (List Int))) (S5 : Nat → Prop) (p6 : Nat) (f : Nat) (ih : ∀ (M : Nat → Prop) (a0 : Nat) (p1 : Nat) (es1 : List Value) (a1 : tMulti) (p2 : Nat) (es2 : List Value) (a2 : Int) (p3 : Nat) (A3 : Option Addr) (c3 n3 : Nat) (a3 : (List Int)) (S3 : Nat → Prop) (p4 g4 : Nat) (a4 : List tKey) (p5 : Nat) (A5 : Option Addr) (c5 : Nat) (a5 : (List (List Int))) (S5 : Nat → Prop) (p6 : Nat) (w : World) (HM : Held M w [rBlk p3 37 [.slice A3 n3 c3], rSo eInt S3 A3 c3 a3, rBlk p5 50 [.slice A5 a5.length c5], rVec (eSl eInt) 37 S5 A5 c5 a5] w) (h1 : eMulti.R w (Out M w) es1 a1) (hq1 : ∀ j v, es1[j]? = some v → w.cell? ⟨p1, 0 + j, none⟩ = some v) (Nhq1 : ¬ M p1) (h2 : eInt.R w (Out M w) es2 a2) (hq2 : ∀ j v, es2[j]? = some v → w.cell? ⟨p2, 0 + j, none⟩ = some v) (Nhq2 : ¬ M p2) (hn3 : a3.length = n3) (hq4 : ∀ j v, ([.map (some g4)] : List Value)[j]? = some v → w.cell? ⟨p4, 0 + j, none⟩ = some v) (Nhq4 : ¬ M p4) (h4 : MapK w g4 a4) (Ng4 : ¬ M g4) (hq6 : ∀ j v, ([.func (.func 104) #[] #[.pointer (some ⟨p1, 0, none⟩), .pointer (some ⟨p2, 0, none⟩), .pointer (some ⟨p3, 0, none⟩), .pointer (some ⟨p4, 0, none⟩), .pointer (some ⟨p5, 0, none⟩), .pointer (some ⟨p6, 0, none⟩)]] : List Value)[j]? = some v → w.cell? ⟨p6, 0 + j, none⟩ = some v) (Nhq6 : ¬ M p6) (s1 : a3.length = a1.1.toNat) (s2 : a0 ≤ a1.1.toNat) (s3 : a1.1.toNat < f + a0) (s4 : 1 ≤ a1.1 ∧ a1.1 ≤ 3) (s5 : 1 ≤ a1.2.1 ∧ a1.2.1 ≤ 100) (s6 : a5.length + a1.2.1.toNat ^ (a1.1.toNat - a0) ≤ 1000000), Calls Try.prog 104 #[.int .i64 (a0 : Int), .pointer (some ⟨p1, 0, none⟩), .pointer (some ⟨p2, 0, none⟩), .pointer (some ⟨p3, 0, none⟩), .pointer (some ⟨p4, 0, none⟩), .pointer (some ⟨p5, 0, none⟩), .pointer (some ⟨p6, 0, none⟩)] w fun e w' => ∃ (S3' : Nat → Prop) (A5' : Option Addr) (c5' : Nat) (S5' : Nat → Prop), e = .returned (.tuple #[]) ∧ Held M w [rBlk p3 37 [.slice A3 n3 c3], rSo eInt S3' A3 c3 (fillF a4 a2 a1.1.toNat a1.2.1.toNat (f) a0 a3 a5).1, rBlk p5 50 [.slice A5' (List.length ((fillF a4 a2 a1.1.toNat a1.2.1.toNat (f) a0 a3 a5).2)) c5'], rVec (eSl eInt) 37 S5' A5' c5' ((fillF a4 a2 a1.1.toNat a1.2.1.toNat (f) a0 a3 a5).2)] w') (w : World) (HM : Held M w [rBlk p3 37 [.slice A3 n3 c3], rSo eInt S3 A3 c3 a3, rBlk p5 50 [.slice A5 a5.length c5], rVec (eSl eInt) 37 S5 A5 c5 a5] w) (h1 : eMulti.R w (Out M w) es1 a1) (hq1 : ∀ j v, es1[j]? = some v → w.cell? ⟨p1, 0 + j, none⟩ = some v) (Nhq1 : ¬ M p1) (h2 : eInt.R w (Out M w) es2 a2) (hq2 : ∀ j v, es2[j]? = some v → w.cell? ⟨p2, 0 + j, none⟩ = some v) (Nhq2 : ¬ M p2) (hn3 : a3.length = n3) (hq4 : ∀ j v, ([.map (some g4)] : List Value)[j]? = some v → w.cell? ⟨p4, 0 + j, none⟩ = some v) (Nhq4 : ¬ M p4) (h4 : MapK w g4 a4) (Ng4 : ¬ M g4) (hq6 : ∀ j v, ([.func (.func 104) #[] #[.pointer (some ⟨p1, 0, none⟩), .pointer (some ⟨p2, 0, none⟩), .pointer (some ⟨p3, 0, none⟩), .pointer (some ⟨p4, 0, none⟩), .pointer (some ⟨p5, 0, none⟩), .pointer (some ⟨p6, 0, none⟩)]] : List Value)[j]? = some v → w.cell? ⟨p6, 0 + j, none⟩ = some v) (Nhq6 : ¬ M p6) (s1 : a3.length = a1.1.toNat) (s2 : a0 ≤ a1.1.toNat) (s3 : a1.1.toNat < f + 1 + a0) (s4 : 1 ≤ a1.1 ∧ a1.1 ≤ 3) (s5 : 1 ≤ a1.2.1 ∧ a1.2.1 ≤ 100) (s6 : a5.length + a1.2.1.toNat ^ (a1.1.toNat - a0) ≤ 1000000) :
    Calls Try.prog 104 #[.int .i64 (a0 : Int), .pointer (some ⟨p1, 0, none⟩), .pointer (some ⟨p2, 0, none⟩), .pointer (some ⟨p3, 0, none⟩), .pointer (some ⟨p4, 0, none⟩), .pointer (some ⟨p5, 0, none⟩), .pointer (some ⟨p6, 0, none⟩)] w fun e w' => ∃ (S3' : Nat → Prop) (A5' : Option Addr) (c5' : Nat) (S5' : Nat → Prop), e = .returned (.tuple #[]) ∧ Held M w [rBlk p3 37 [.slice A3 n3 c3], rSo eInt S3' A3 c3 (fillF a4 a2 a1.1.toNat a1.2.1.toNat (f + 1) a0 a3 a5).1, rBlk p5 50 [.slice A5' (List.length ((fillF a4 a2 a1.1.toNat a1.2.1.toNat (f + 1) a0 a3 a5).2)) c5'], rVec (eSl eInt) 37 S5' A5' c5' ((fillF a4 a2 a1.1.toNat a1.2.1.toNat (f + 1) a0 a3 a5).2)] w' := by
  have H1 := h1
  obtain ⟨Az1_3, cz1_3, rfl, gz1_0, gz1_1, gz1_2, gz1_3⟩ := shape_Multi h1
  have jz1_0 := gz1_0; unfold I64 at jz1_0
  have jz1_1 := gz1_1; unfold I64 at jz1_1
  have jz1_2 := gz1_2; unfold I64 at jz1_2
  have lz1_3 := gz1_3.len
  have H2 := h2
  obtain ⟨rfl, iz2⟩ := h2
  have jz2 := iz2; unfold I64 at jz2
  have HH1 := HM
  have lv3 := (HH1.sl (i := 1) rfl).len
  have lv5 := (HH1.vecSl (i := 3) rfl).len
  refine enter (n := 54) Try.func104 rfl rfl rfl fun a_2 HE3 => ?_
  refine wp_seq ?_
  refine wp_seq ?_
  refine rg ?_
  refine pl_x HE3 HH1 (wt0 rfl) (x_move rfl) rfl rfl fun a_4 HE5 => ?_
  refine pl_x HE5 HH1 (wt0 rfl) (x_fieldAddr fa_55_0 rfl) rfl rfl fun a_6 HE7 => ?_
  refine pl_x HE7 HH1 (wt0 rfl) (x_load1 tv_2 rfl (c_oldM Nhq1 (hq1 0 _ rfl))) rfl rfl fun a_8 HE9 => ?_
  refine pl_x HE9 HH1 (wt0 rfl) (x_eql rfl rfl) rfl rfl fun a_10 HE11 => ?_
  refine wpList_nil ?_
  clear a_2 HE3 a_4 HE5 a_6 HE7 a_8 HE9
  refine nrm ?_
  refine cnd_e HE11 rfl (fun hc21 => ?_) (fun hc21 => ?_)
  · refine wp_seq ?_
    refine rg ?_
    refine pl_x HE11 HH1 (wt0 rfl) (x_load1 tv_2 rfl (c_oldM Nhq2 (hq2 0 _ rfl))) rfl rfl fun a_12 HE13 => ?_
    refine pl_x HE13 HH1 (wt0 rfl) (x_buildR rfl) rfl rfl fun a_14 HE15 => ?_
    refine pl fun K_16 hK17 => ?_
    refine st_alloc HE15 HH1 tv_137 (wt0 rfl) rfl fun q22 a_18 w' HE19 HH20 => hK17 _ _ ?_
    refine pl fun K_21 hK22 => ?_
    refine st_store (vs := [.int .i64 (a2), .int .i64 (0), .int .i64 (0), .int .i64 (0)]) 0 HE19 HH20 tv_137 rfl rfl rfl rfl rfl rfl (by simp [Value.oneCell']) (wt0 rfl) fun w' HH23 => hK22 _ _ ?_
    refine wpList_nil ?_
    clear a_10 HE11 a_12 HE13 a_14 HE15 HH1 K_16 hK17 HH20 hK22 K_21
    refine nrm ?_
    refine wp_seq ?_
    refine dr_start (Held M w [rBlk p3 37 [.slice A3 (n3) c3], rSo eInt S3 A3 c3 a3, rBlk p5 50 [.slice A5 (a5.length) c5], rVec (eSl eInt) 37 S5 A5 c5 a5]) 4 #[false, false, false, false] hmix rfl rfl HH23 (fun _ h => h.sel [1, 2, 3, 4] (by decide) rfl) fun w' HH24 => ?_
    have HS25 := HH24.sel [1, 2, 3, 4] (by decide) rfl
    refine dr_take (i := 0) (ls' := #[true, false, false, false]) HE19 HS25 rfl (by kernel_rfl) (by kernel_rfl) (by kernel_rfl) (fun _ _ _ h => h) rfl (wt0 rfl) (x_fieldAddr fa_137_1 rfl) rfl rfl fun a_26 HE27 => ?_
    refine dr_take (i := 1) (ls' := #[true, true, false, false]) HE27 HS25 rfl (by kernel_rfl) (by kernel_rfl) (by kernel_rfl) (fun _ _ _ h => h) rfl (wt0 rfl) (x_sliceArr Try.underlying135 tv_2 rfl) rfl rfl fun a_28 HE29 => ?_
    refine dr_take (i := 2) (ls' := #[true, true, true, false]) HE29 HS25 rfl (by kernel_rfl) (by kernel_rfl) (by kernel_rfl) (fun _ _ _ h => h) rfl (wt0 rfl) (x_load1 tv_37 rfl (c_blk 0 rfl rfl)) rfl rfl fun a_30 HE31 => ?_
    refine dr_one (i := 3) (ls' := #[true, true, true, true]) rfl (by kernel_rfl) rfl fun K_32 hK33 => ?_
    refine st_copyA (ys := a3) 0 HE31 HH24 ts_37 rfl rfl rfl (by first | rfl | omega) (HH24.sl (i := 2) rfl) (by omega) (wt0 rfl) rfl fun a_34 w' HE35 HH36 hI23 => hK33 _ _ (by exact HH36.sel [1, 2, 3, 4] (by decide) rfl) ?_
    have HS37 := HH36.sel [1, 2, 3, 4] (by decide) rfl
    refine dr_done (by kernel_rfl) ?_
    clear HH23 a_18 HE19 a_26 HE27 a_28 HE29 a_30 HE31 HH24 HS25 hK33 K_32
    refine nrm ?_
    refine wp_seq ?_
    refine wp_seq ?_
    refine rg ?_
    refine pl_x HE35 HH36 (wt0 rfl) (x_load1 tv_133 rfl (c_oldM Nhq4 (hq4 0 _ rfl))) rfl rfl fun a_38 HE39 => ?_
    refine pl_x HE39 HH36 (wt0 rfl) (x_loadN (cs := [.int .i64 (a2), .int .i64 ((a3[0]?.getD 0)), .int .i64 ((a3[1]?.getD 0)), .int .i64 ((a3[2]?.getD 0))]) tv_137 rfl rfl (c_blkN 0 rfl)) rfl rfl fun a_40 HE41 => ?_
    refine pl fun K_42 hK43 => ?_
    refine st_lookup (k := (a2, (a3[0]?.getD 0), (a3[1]?.getD 0), (a3[2]?.getD 0))) HE41 (HH36.mapOM h4 Ng4) rfl rfl ⟨⟨by omega, by omega⟩, hI23 0, hI23 1, hI23 2⟩ (wt0 rfl) rfl fun v24 a_44 HE45 => hK43 _ _ ?_
    refine pl_x HE45 HH36 (wt0 rfl) (x_move rfl) rfl rfl fun a_46 HE47 => ?_
    refine pl_x HE47 HH36 (wt0 rfl) (x_extract rfl rfl) rfl rfl fun a_48 HE49 => ?_
    refine pl_x HE49 HH36 (wt0 rfl) (x_extract rfl rfl) rfl rfl fun a_50 HE51 => ?_
    refine pl_x HE51 HH36 (wt0 rfl) (x_assign rfl) rfl rfl fun a_52 HE53 => ?_
    refine pl_x HE53 HH36 (wt0 rfl) (x_assign rfl) rfl rfl fun a_54 HE55 => ?_
    refine wpList_nil ?_
    clear a_34 HE35 a_38 HE39 a_40 HE41 a_44 HE45 a_46 HE47 a_48 HE49 a_50 HE51 a_52 HE53 hK43 K_42
    refine nrm ?_
    refine wp_seq ?_
    refine rg ?_
    refine pl_x HE55 HH36 (wt0 rfl) (x_move rfl) rfl rfl fun a_56 HE57 => ?_
    refine pl_x HE57 HH36 (wt0 rfl) (x_not rfl) rfl rfl fun a_58 HE59 => ?_
    refine wpList_nil ?_
    clear a_54 HE55 a_56 HE57
    refine nrm ?_
    refine cnd_nd HE59 rfl (fun hc25 => ?_) (fun hc25 => ?_)
    · refine dr_start (Held M w [rBlk q22 137 [.int .i64 (a2), .int .i64 ((a3[0]?.getD 0)), .int .i64 ((a3[1]?.getD 0)), .int .i64 ((a3[2]?.getD 0))], rBlk p3 37 [.slice A3 (n3) c3], rSo eInt S3 A3 c3 a3]) 6 #[false, false, false, false, false, false] hmix rfl rfl HH36 (fun _ h => h.sel [0, 1, 2] (by decide) rfl) fun w' HH60 => ?_
      have HS61 := HH60.sel [0, 1, 2] (by decide) rfl
      refine dr_take (i := 1) (ls' := #[false, true, false, false, false, false]) HE59 HS61 rfl (by kernel_rfl) (by kernel_rfl) (by kernel_rfl) (fun _ _ _ h => h) rfl (wt0 rfl) (x_load1 tv_37 rfl (c_blk 1 rfl rfl)) rfl rfl fun a_62 HE63 => ?_
      refine dr_two (i := 0) (j := 2) (ls' := #[true, true, false, false, false, false]) (ls'' := #[false, true, true, false, false, false]) rfl rfl (by kernel_rfl) rfl rfl (fun K_64 hK65 => ?_) (fun K_64 hK65 => ?_)
      · refine st_x HE63 HH60 (wt0 rfl) (x_load1 tv_50 rfl (c_blk 3 rfl rfl)) rfl rfl fun a_66 HE67 => hK65 _ _ HS61 ?_
        refine dr_one (i := 2) (ls' := #[true, true, true, false, false, false]) rfl (by kernel_rfl) rfl fun K_68 hK69 => ?_
        have HE70 := HE67.castS (t := 30) (m' := List.length a3) rfl (by first | omega | (simp; done) | (simp; omega))
        refine st_call HE70 (wt0 rfl) rfl rfl rfl en_72 rfl rfl (Clone_Int64 _ _ a3 _ (HH60.sl (i := 2) rfl) (by omega)) fun e w' hr => ?_
        obtain ⟨Ar26_0, cr26_0, rfl, hor26_0, hbr26⟩ := hr
        obtain ⟨Sr26, HH71⟩ := HH60.newS hbr26 hor26_0
        refine ⟨_, rfl, fun a_72 HE73 => hK69 _ _ (by exact HH71.sel [1, 2, 3] (by decide) rfl) ?_⟩
        have HS74 := HH71.sel [1, 2, 3] (by decide) rfl
        refine dr_one (i := 3) (ls' := #[true, true, true, true, false, false]) rfl (by kernel_rfl) rfl fun K_75 hK76 => ?_
        refine st_lit (m := 1) (cs := [.slice Ar26_0 (a3.length) cr26_0]) (e := 37) HE73 HH71 (run_lit ts_50 HE73 (vs := [.slice Ar26_0 (a3.length) cr26_0]) rfl rfl (by simp [Value.cells]) rfl (by decide)) (wt0 rfl) rfl rfl fun q27 a_77 w' HE78 HH79 => hK76 _ _ (by exact HH79.sel [2, 3, 4] (by decide) rfl) ?_
        have HS80 := HH79.sel [2, 3, 4] (by decide) rfl
        refine dr_one (i := 4) (ls' := #[true, true, true, true, true, false]) rfl (by kernel_rfl) rfl fun K_81 hK82 => ?_
        refine st_app1 HE78 HH79 ts_50 [6, 1, 0, 2, 3, 4, 5] (by decide) rfl rfl rfl (by simp [Value.oneCell']) (by unfold maxLen; first | omega | (simp; done) | (simp; omega)) (by first | omega | (simp; done) | (simp; omega)) (wt0 rfl) rfl fun A28 c29 S30 a_83 w' HE84 HH85 => hK82 _ _ (by exact HH85.sel [2, 3, 4] (by decide) rfl) ?_
        have HS86 := HH85.sel [2, 3, 4] (by decide) rfl
        refine dr_one (i := 5) (ls' := #[true, true, true, true, true, true]) rfl (by kernel_rfl) rfl fun K_87 hK88 => ?_
        refine st_store (vs := [.slice A28 ((a5 ++ [a3]).length) c29]) 5 HE84 HH85 tv_50 rfl rfl rfl rfl rfl rfl (by simp [Value.oneCell']) (wt0 rfl) fun w' HH89 => hK88 _ _ (by exact HH89.sel [2, 3, 4] (by decide) rfl) ?_
        have HS90 := HH89.sel [2, 3, 4] (by decide) rfl
        refine dr_done (by kernel_rfl) ?_
        clear HH36 HS37 a_58 HE59 a_62 HE63 K_64 hK65 HE67 HH60 a_66 HE70 HS61 K_68 hK69 a_72 HE73 HH71 HS74 K_75 hK76 a_77 HE78 HH79 HS80 K_81 hK82 HH85 HS86 hK88 K_87
        refine nrm ?_
        refine wp_ret ?_
        refine (thn_ret ?_)
        refine ret0 HE84 rfl ?_
        have hF : (fillF a4 a2 a1.1.toNat a1.2.1.toNat (f + 1) a0 a3 a5) = (a3, (a5 ++ [a3])) := by
          first | (rw [fillF_top (by omega), if_pos (by assumption)]; done) | (rw [fillF_top (by omega), if_neg (by assumption)]; done) | (rw [fillF_go (by omega), show a1.2.1.toNat = v from by omega])
        exact ⟨_, _, _, _, rfl, by rw [hF]; exact HH89.sel [3, 4, 5, 0] (by decide) rfl⟩
      · have HE91 := HE63.castS (t := 30) (m' := List.length a3) rfl (by first | omega | (simp; done) | (simp; omega))
        refine st_call HE91 (wt0 rfl) rfl rfl rfl en_72 rfl rfl (Clone_Int64 _ _ a3 _ (HH60.sl (i := 2) rfl) (by omega)) fun e w' hr => ?_
        obtain ⟨Ar31_0, cr31_0, rfl, hor31_0, hbr31⟩ := hr
        obtain ⟨Sr31, HH92⟩ := HH60.newS hbr31 hor31_0
        refine ⟨_, rfl, fun a_93 HE94 => hK65 _ _ (by exact HH92.sel [1, 2, 3] (by decide) rfl) ?_⟩
        have HS95 := HH92.sel [1, 2, 3] (by decide) rfl
        refine dr_two (i := 0) (j := 3) (ls' := #[true, true, true, false, false, false]) (ls'' := #[false, true, true, true, false, false]) rfl rfl (by kernel_rfl) rfl rfl (fun K_96 hK97 => ?_) (fun K_96 hK97 => ?_)
        · refine st_x HE94 HH92 (wt0 rfl) (x_load1 tv_50 rfl (c_blk 4 rfl rfl)) rfl rfl fun a_98 HE99 => hK97 _ _ HS95 ?_
          refine dr_one (i := 3) (ls' := #[true, true, true, true, false, false]) rfl (by kernel_rfl) rfl fun K_100 hK101 => ?_
          refine st_lit (m := 1) (cs := [.slice Ar31_0 (a3.length) cr31_0]) (e := 37) HE99 HH92 (run_lit ts_50 HE99 (vs := [.slice Ar31_0 (a3.length) cr31_0]) rfl rfl (by simp [Value.cells]) rfl (by decide)) (wt0 rfl) rfl rfl fun q32 a_102 w' HE103 HH104 => hK101 _ _ (by exact HH104.sel [2, 3, 4] (by decide) rfl) ?_
          have HS105 := HH104.sel [2, 3, 4] (by decide) rfl
          refine dr_one (i := 4) (ls' := #[true, true, true, true, true, false]) rfl (by kernel_rfl) rfl fun K_106 hK107 => ?_
          refine st_app1 HE103 HH104 ts_50 [6, 1, 0, 2, 3, 4, 5] (by decide) rfl rfl rfl (by simp [Value.oneCell']) (by unfold maxLen; first | omega | (simp; done) | (simp; omega)) (by first | omega | (simp; done) | (simp; omega)) (wt0 rfl) rfl fun A33 c34 S35 a_108 w' HE109 HH110 => hK107 _ _ (by exact HH110.sel [2, 3, 4] (by decide) rfl) ?_
          have HS111 := HH110.sel [2, 3, 4] (by decide) rfl
          refine dr_one (i := 5) (ls' := #[true, true, true, true, true, true]) rfl (by kernel_rfl) rfl fun K_112 hK113 => ?_
          refine st_store (vs := [.slice A33 ((a5 ++ [a3]).length) c34]) 5 HE109 HH110 tv_50 rfl rfl rfl rfl rfl rfl (by simp [Value.oneCell']) (wt0 rfl) fun w' HH114 => hK113 _ _ (by exact HH114.sel [2, 3, 4] (by decide) rfl) ?_
          have HS115 := HH114.sel [2, 3, 4] (by decide) rfl
          refine dr_done (by kernel_rfl) ?_
          clear HH36 HS37 a_58 HE59 HE63 HH60 a_62 HE91 HS61 K_64 hK65 a_93 HE94 K_96 hK97 a_98 HE99 HH92 HS95 K_100 hK101 a_102 HE103 HH104 HS105 K_106 hK107 HH110 HS111 hK113 K_112
          refine nrm ?_
          refine wp_ret ?_
          refine (thn_ret ?_)
          refine ret0 HE109 rfl ?_
          have hF : (fillF a4 a2 a1.1.toNat a1.2.1.toNat (f + 1) a0 a3 a5) = (a3, (a5 ++ [a3])) := by
            first | (rw [fillF_top (by omega), if_pos (by assumption)]; done) | (rw [fillF_top (by omega), if_neg (by assumption)]; done) | (rw [fillF_go (by omega), show a1.2.1.toNat = v from by omega])
          exact ⟨_, _, _, _, rfl, by rw [hF]; exact HH114.sel [3, 4, 5, 0] (by decide) rfl⟩
        · refine st_lit (m := 1) (cs := [.slice Ar31_0 (a3.length) cr31_0]) (e := 37) HE94 HH92 (run_lit ts_50 HE94 (vs := [.slice Ar31_0 (a3.length) cr31_0]) rfl rfl (by simp [Value.cells]) rfl (by decide)) (wt0 rfl) rfl rfl fun q36 a_116 w' HE117 HH118 => hK97 _ _ (by exact HH118.sel [2, 3, 4] (by decide) rfl) ?_
          have HS119 := HH118.sel [2, 3, 4] (by decide) rfl
          refine dr_one (i := 0) (ls' := #[true, true, true, true, false, false]) rfl (by kernel_rfl) rfl fun K_120 hK121 => ?_
          refine st_x HE117 HH118 (wt0 rfl) (x_load1 tv_50 rfl (c_blk 5 rfl rfl)) rfl rfl fun a_122 HE123 => hK121 _ _ HS119 ?_
          refine dr_one (i := 4) (ls' := #[true, true, true, true, true, false]) rfl (by kernel_rfl) rfl fun K_124 hK125 => ?_
          refine st_app1 HE123 HH118 ts_50 [6, 1, 0, 2, 3, 4, 5] (by decide) rfl rfl rfl (by simp [Value.oneCell']) (by unfold maxLen; first | omega | (simp; done) | (simp; omega)) (by first | omega | (simp; done) | (simp; omega)) (wt0 rfl) rfl fun A37 c38 S39 a_126 w' HE127 HH128 => hK125 _ _ (by exact HH128.sel [2, 3, 4] (by decide) rfl) ?_
          have HS129 := HH128.sel [2, 3, 4] (by decide) rfl
          refine dr_one (i := 5) (ls' := #[true, true, true, true, true, true]) rfl (by kernel_rfl) rfl fun K_130 hK131 => ?_
          refine st_store (vs := [.slice A37 ((a5 ++ [a3]).length) c38]) 5 HE127 HH128 tv_50 rfl rfl rfl rfl rfl rfl (by simp [Value.oneCell']) (wt0 rfl) fun w' HH132 => hK131 _ _ (by exact HH132.sel [2, 3, 4] (by decide) rfl) ?_
          have HS133 := HH132.sel [2, 3, 4] (by decide) rfl
          refine dr_done (by kernel_rfl) ?_
          clear HH36 HS37 a_58 HE59 HE63 HH60 a_62 HE91 HS61 K_64 hK65 a_93 HE94 HH92 HS95 K_96 hK97 a_116 HE117 K_120 hK121 a_122 HE123 HH118 HS119 K_124 hK125 HH128 HS129 hK131 K_130
          refine nrm ?_
          refine wp_ret ?_
          refine (thn_ret ?_)
          refine ret0 HE127 rfl ?_
          have hF : (fillF a4 a2 a1.1.toNat a1.2.1.toNat (f + 1) a0 a3 a5) = (a3, (a5 ++ [a3])) := by
            first | (rw [fillF_top (by omega), if_pos (by assumption)]; done) | (rw [fillF_top (by omega), if_neg (by assumption)]; done) | (rw [fillF_go (by omega), show a1.2.1.toNat = v from by omega])
          exact ⟨_, _, _, _, rfl, by rw [hF]; exact HH132.sel [3, 4, 5, 0] (by decide) rfl⟩
    · refine wp_skip ?_
      refine nrm ?_
      refine wp_ret ?_
      refine (thn_ret ?_)
      refine ret0 HE59 rfl ?_
      have hF : (fillF a4 a2 a1.1.toNat a1.2.1.toNat (f + 1) a0 a3 a5) = (a3, a5) := by
        first | (rw [fillF_top (by omega), if_pos (by assumption)]; done) | (rw [fillF_top (by omega), if_neg (by assumption)]; done) | (rw [fillF_go (by omega), show a1.2.1.toNat = v from by omega])
      exact ⟨_, _, _, _, rfl, by rw [hF]; exact HH36.sel [1, 2, 3, 4] (by decide) rfl⟩
  · refine wp_skip ?_
    refine nrm ?_
    refine wp_seq ?_
    refine rg ?_
    refine pl_x HE11 HH1 (wt0 rfl) (x_load1 tv_37 rfl (c_blk 0 rfl rfl)) rfl rfl fun a_134 HE135 => ?_
    refine pl_x HE135 HH1 (wt0 rfl) (x_move rfl) rfl rfl fun a_136 HE137 => ?_
    have ke40 : a0 < n3 := by omega
    obtain ⟨be40, fe40, rfl⟩ := el_own HH1 (i := 1) rfl (k := a0) (by omega)
    refine pl_x HE137 HH1 (wt0 rfl) (x_indexAddr ts_37 rfl rfl rfl rfl ke40) rfl rfl fun a_138 HE139 => ?_
    refine pl fun K_140 hK141 => ?_
    refine st_storeI 1 HE139 HH1 tv_2 rfl rfl rfl (by first | exact ke40 | (simp only [List.length_set]; exact ke40) | omega | (simp only [List.length_set]; omega) | (simp; omega)) (by exact ⟨by omega, by omega⟩) (wt0 rfl) fun w' HH142 => hK141 _ _ ?_
    refine wpList_nil ?_
    clear a_10 HE11 a_134 HE135 a_136 HE137 HH1 hK141 K_140
    refine nrm ?_
    refine wp_block ?_
    refine lp (fun m a w' => ∃ (v : Nat) (A_5_0 : Option Addr) (c_5_0 : Nat) (S_5_0 : Nat → Prop) (S_3_0 : Nat → Prop), m = a1.2.1.toNat - v ∧ Env 54 [(0, .int .i64 ((a0 : Int))), (1, .pointer (some ⟨p1, 0, none⟩)), (3, .pointer (some ⟨p3, 0, none⟩)), (6, .pointer (some ⟨p6, 0, none⟩)), (5, .pointer (some ⟨p5, 0, none⟩))] a ∧ Held M w [rVec (eSl eInt) 37 S_5_0 A_5_0 c_5_0 ((fillN a4 a2 a1.1.toNat a1.2.1.toNat f a0 a3 a5 v).2), rSo eInt S_3_0 (some ⟨be40, fe40, none⟩) c3 ((fillN a4 a2 a1.1.toNat a1.2.1.toNat f a0 a3 a5 v).1.set a0 ((v : Nat) : Int)), rBlk p5 50 [.slice A_5_0 (List.length ((fillN a4 a2 a1.1.toNat a1.2.1.toNat f a0 a3 a5 v).2)) c_5_0], rBlk p3 37 [.slice (some ⟨be40, fe40, none⟩) (n3) c3]] w' ∧ (v ≤ a1.2.1.toNat)) (a1.2.1.toNat - (0)) ?_ ?_
    · have E41 : (fillN a4 a2 a1.1.toNat a1.2.1.toNat f a0 a3 a5 0).2 = a5 := by
        rfl
      have E42 : ((fillN a4 a2 a1.1.toNat a1.2.1.toNat f a0 a3 a5 0).1.set a0 ((0 : Nat) : Int)) = (a3.set a0 0) := by
        rfl
      exact ⟨0, A5, c5, S5, S3, rfl, HE139.sub ⟨rfl, rfl, rfl, rfl, rfl, trivial⟩, ((HH142.sel [3, 1, 2, 0] (by decide) rfl).to (by first | rfl | (rw [E41, E42]; done) | (rw [E41, E42]; rfl) | (simp only [E41, E42]; done) | (simp only [E41, E42]; rfl) | (rw [E41, E42]; simp only [List.length_set]; done))), (by first | omega | assumption | (simp; done) | simp_all)⟩
    · rintro m a_143 w' ⟨v, A_5_0, c_5_0, S_5_0, S_3_0, rfl, HE144, HH145, p43_0⟩
      have hfl := fillN_len a4 a2 a1.1.toNat a1.2.1.toNat f a0 a3 a5 v
      have hsl : ((fillN a4 a2 a1.1.toNat a1.2.1.toNat f a0 a3 a5 v).1.set a0 ((v : Nat) : Int)).length = a3.length := by rw [List.length_set, hfl]
      refine wp_seq ?_
      refine wp_seq ?_
      refine dr_start (Held M w [rVec (eSl eInt) 37 S_5_0 A_5_0 c_5_0 ((fillN a4 a2 a1.1.toNat a1.2.1.toNat f a0 a3 a5 v).2), rSo eInt S_3_0 (some ⟨be40, fe40, none⟩) c3 ((fillN a4 a2 a1.1.toNat a1.2.1.toNat f a0 a3 a5 v).1.set a0 ((v : Nat) : Int)), rBlk p5 50 [.slice A_5_0 ((List.length ((fillN a4 a2 a1.1.toNat a1.2.1.toNat f a0 a3 a5 v).2))) c_5_0], rBlk p3 37 [.slice (some ⟨be40, fe40, none⟩) (n3) c3]]) 7 #[false, false, false, false, false, false, false] hmix rfl rfl HH145 (fun _ h => h.sel [0, 1, 2, 3] (by decide) rfl) fun w' HH146 => ?_
      have HS147 := HH146
      refine dr_take (i := 0) (ls' := #[true, false, false, false, false, false, false]) HE144 HS147 rfl (by kernel_rfl) (by kernel_rfl) (by kernel_rfl) (fun _ _ _ h => h) rfl (wt0 rfl) (x_load1 tv_37 rfl (c_blk 3 rfl rfl)) rfl rfl fun a_148 HE149 => ?_
      refine dr_take (i := 1) (ls' := #[true, true, false, false, false, false, false]) HE149 HS147 rfl (by kernel_rfl) (by kernel_rfl) (by kernel_rfl) (fun _ _ _ h => h) rfl (wt0 rfl) (x_move rfl) rfl rfl fun a_150 HE151 => ?_
      have ke44 : a0 < n3 := by omega
      refine dr_take (i := 2) (ls' := #[true, true, true, false, false, false, false]) HE151 HS147 rfl (by kernel_rfl) (by kernel_rfl) (by kernel_rfl) (fun _ _ _ h => h) rfl (wt0 rfl) (x_indexAddr ts_37 rfl rfl rfl rfl ke44) rfl rfl fun a_152 HE153 => ?_
      refine dr_take (i := 3) (ls' := #[true, true, true, true, false, false, false]) HE153 HS147 rfl (by kernel_rfl) (by kernel_rfl) (by kernel_rfl) (fun _ _ _ h => h) rfl (wt0 rfl) (x_load1 tv_2 rfl (c_ownV (y := ((v : Nat) : Int)) 1 rfl (by first | exact ke44 | (simp only [List.length_set]; exact ke44) | omega | (simp only [List.length_set]; omega) | (simp; omega)) (by simp))) rfl rfl fun a_154 HE155 => ?_
      refine dr_take (i := 4) (ls' := #[true, true, true, true, true, false, false]) HE155 HS147 rfl (by kernel_rfl) (by kernel_rfl) (by kernel_rfl) (fun _ _ _ h => h) rfl (wt0 rfl) (x_fieldAddr fa_55_1 rfl) rfl rfl fun a_156 HE157 => ?_
      refine dr_take (i := 5) (ls' := #[true, true, true, true, true, true, false]) HE157 HS147 rfl (by kernel_rfl) (by kernel_rfl) (by kernel_rfl) (fun _ _ _ h => h) rfl (wt0 rfl) (x_load1 tv_2 rfl (c_oldM Nhq1 (hq1 1 _ rfl))) rfl rfl fun a_158 HE159 => ?_
      refine dr_take (i := 6) (ls' := #[true, true, true, true, true, true, true]) HE159 HS147 rfl (by kernel_rfl) (by kernel_rfl) (by kernel_rfl) (fun _ _ _ h => h) rfl (wt0 rfl) (x_lss rfl rfl) rfl rfl fun a_160 HE161 => ?_
      refine dr_done (by kernel_rfl) ?_
      clear a_138 HE139 HH142 HH145 a_143 HE144 a_148 HE149 a_150 HE151 a_152 HE153 a_154 HE155 a_156 HE157 a_158 HE159
      refine nrm ?_
      refine cnd_d HE161 rfl (fun hc45 => ?_) (fun hc45 => ?_)
      · refine wp_skip ?_
        refine nrm ?_
        refine wp_seq ?_
        refine wp_block ?_
        refine rg ?_
        refine pl_x HE161 HH146 (wt0 rfl) (x_load1 tv_121 rfl (c_oldM Nhq6 (hq6 0 _ rfl))) rfl rfl fun a_162 HE163 => ?_
        refine pl_x HE163 HH146 (wt0 rfl) (x_move rfl) rfl rfl fun a_164 HE165 => ?_
        refine pl_x HE165 HH146 (wt0 rfl) (x_add rfl rfl (by exact ⟨by omega, by omega⟩)) rfl rfl fun a_166 HE167 => ?_
        refine pl fun K_168 hK169 => ?_
        have HH170 := HH146.sel [3, 1, 2, 0] (by decide) rfl
        have HH171 : Held M w ([rBlk p3 37 [.slice (some ⟨be40, fe40, none⟩) (n3) c3], rSo eInt S_3_0 (some ⟨be40, fe40, none⟩) c3 ((fillN a4 a2 a1.1.toNat a1.2.1.toNat f a0 a3 a5 v).1.set a0 ((v : Nat) : Int)), rBlk p5 50 [.slice A_5_0 ((List.length ((fillN a4 a2 a1.1.toNat a1.2.1.toNat f a0 a3 a5 v).2))) c_5_0], rVec (eSl eInt) 37 S_5_0 A_5_0 c_5_0 ((fillN a4 a2 a1.1.toNat a1.2.1.toNat f a0 a3 a5 v).2)] ++ []) _ := HH170
        have HE172 := HE167.castI (t := 52) (y := ((a0 + 1) : Int)) rfl (by omega)
        refine st_callD HE172 (wt0 rfl) rfl rfl rfl en_104 rfl rfl (ih (Foot [rBlk p3 37 [.slice (some ⟨be40, fe40, none⟩) (n3) c3], rSo eInt S_3_0 (some ⟨be40, fe40, none⟩) c3 ((fillN a4 a2 a1.1.toNat a1.2.1.toNat f a0 a3 a5 v).1.set a0 ((v : Nat) : Int)), rBlk p5 50 [.slice A_5_0 ((List.length ((fillN a4 a2 a1.1.toNat a1.2.1.toNat f a0 a3 a5 v).2))) c_5_0], rVec (eSl eInt) 37 S_5_0 A_5_0 c_5_0 ((fillN a4 a2 a1.1.toNat a1.2.1.toNat f a0 a3 a5 v).2)]) (a0 + 1) _ [.int .i64 (a1.1), .int .i64 (a1.2.1), .int .i64 (a1.2.2.1), .slice Az1_3 (a1.2.2.2.length) cz1_3] a1 _ [.int .i64 (a2)] a2 _ _ _ _ ((fillN a4 a2 a1.1.toNat a1.2.1.toNat f a0 a3 a5 v).1.set a0 ((v : Nat) : Int)) _ _ _ a4 _ _ _ ((fillN a4 a2 a1.1.toNat a1.2.1.toNat f a0 a3 a5 v).2) _ _ _ HH171.focus (HH171.lendOM H1) (c_oldNM Nhq1 hq1 _ HH171) (HH171.nfOM Nhq1 (hq1 0 _ rfl)) (HH171.lendOM H2) (c_oldNM Nhq2 hq2 _ HH171) (HH171.nfOM Nhq2 (hq2 0 _ rfl)) (by first | rfl | omega) (c_oldNM Nhq4 hq4 _ HH171) (HH171.nfOM Nhq4 (hq4 0 _ rfl)) (HH171.mapOM h4 Ng4) (HH171.nfOMM h4 Ng4) (c_oldNM Nhq6 hq6 _ HH171) (HH171.nfOM Nhq6 (hq6 0 _ rfl)) (by first | omega | (simp; done)) (by first | omega | (simp; done)) (by omega) (by omega) (by omega) (by first | exact fillN_room (by omega) (by omega) (by omega) s6 | assumption)) fun e w' hr => ?_
        obtain ⟨Sr46_0, Ar46_1, cr46_1, Sr46_1, rfl, hbr46⟩ := hr
        have HH173 := HH171.back hbr46
        clear hbr46
        have HH174 : Held M w ([rBlk p3 37 [.slice (some ⟨be40, fe40, none⟩) (n3) c3], rSo eInt Sr46_0 (some ⟨be40, fe40, none⟩) c3 ((fillF a4 a2 a1.1.toNat a1.2.1.toNat f (a0 + 1) ((fillN a4 a2 a1.1.toNat a1.2.1.toNat f a0 a3 a5 v).1.set a0 ((v : Nat) : Int)) ((fillN a4 a2 a1.1.toNat a1.2.1.toNat f a0 a3 a5 v).2)).1), rBlk p5 50 [.slice Ar46_1 ((List.length ((fillF a4 a2 a1.1.toNat a1.2.1.toNat f (a0 + 1) ((fillN a4 a2 a1.1.toNat a1.2.1.toNat f a0 a3 a5 v).1.set a0 ((v : Nat) : Int)) ((fillN a4 a2 a1.1.toNat a1.2.1.toNat f a0 a3 a5 v).2)).2))) cr46_1], rVec (eSl eInt) 37 Sr46_1 Ar46_1 cr46_1 ((fillF a4 a2 a1.1.toNat a1.2.1.toNat f (a0 + 1) ((fillN a4 a2 a1.1.toNat a1.2.1.toNat f a0 a3 a5 v).1.set a0 ((v : Nat) : Int)) ((fillN a4 a2 a1.1.toNat a1.2.1.toNat f a0 a3 a5 v).2)).2)] ++ []) _ := HH173
        have hAr46_0 := fillF_len a4 a2 a1.1.toNat a1.2.1.toNat f (a0 + 1) ((fillN a4 a2 a1.1.toNat a1.2.1.toNat f a0 a3 a5 v).1.set a0 ((v : Nat) : Int)) ((fillN a4 a2 a1.1.toNat a1.2.1.toNat f a0 a3 a5 v).2)
        refine ⟨_, rfl, fun a_175 HE176 => hK169 _ _ ?_⟩
        refine wpList_nil ?_
        clear a_160 HE161 a_162 HE163 a_164 HE165 HH146 HH170 HE167 HH171 HH173 a_166 HE172 hK169 K_168
        refine blk_n ?_
        refine nrm ?_
        refine rg ?_
        refine pl_x HE176 HH174 (wt0 rfl) (x_load1 tv_37 rfl (c_blk 0 rfl rfl)) rfl rfl fun a_177 HE178 => ?_
        refine pl_x HE178 HH174 (wt0 rfl) (x_move rfl) rfl rfl fun a_179 HE180 => ?_
        have ke47 : a0 < n3 := by omega
        refine pl_x HE180 HH174 (wt0 rfl) (x_indexAddr ts_37 rfl rfl rfl rfl ke47) rfl rfl fun a_181 HE182 => ?_
        obtain ⟨y48, xy48⟩ : ∃ y_, y_ = ((fillF a4 a2 a1.1.toNat a1.2.1.toNat f (a0 + 1) ((fillN a4 a2 a1.1.toNat a1.2.1.toNat f a0 a3 a5 v).1.set a0 ((v : Nat) : Int)) ((fillN a4 a2 a1.1.toNat a1.2.1.toNat f a0 a3 a5 v).2)).1)[a0]'(by first | exact ke47 | (simp only [List.length_set]; exact ke47) | omega | (simp only [List.length_set]; omega) | (simp; omega)) := ⟨_, rfl⟩
        have iy48 : I64 y48 := by rw [xy48]; exact i_ownI HH174 1 rfl _
        have jy48 := iy48; unfold I64 at jy48
        have hyv : y48 = (v : Int) := by have q := fillN_at (ks := a4) (st := a2) (T := a1.1.toNat) (S := a1.2.1.toNat) (f := f) (k := a0) (b := a3) (l := a5) (v := v) (by omega); rw [List.getElem?_eq_getElem (by rw [fillF_len, List.length_set, fillN_len]; omega), ← xy48] at q; exact Option.some.inj q
        refine pl_x HE182 HH174 (wt0 rfl) (x_load1 tv_2 rfl (c_ownV 1 rfl (by first | exact ke47 | (simp only [List.length_set]; exact ke47) | omega | (simp only [List.length_set]; omega) | (simp; omega)) xy48.symm)) rfl rfl fun a_183 HE184 => ?_
        refine pl_x HE184 HH174 (wt0 rfl) (x_add rfl rfl (by exact ⟨by omega, by omega⟩)) rfl rfl fun a_185 HE186 => ?_
        have ke49 : a0 < n3 := by omega
        refine pl_x HE186 HH174 (wt0 rfl) (x_indexAddr ts_37 rfl rfl rfl rfl ke49) rfl rfl fun a_187 HE188 => ?_
        refine pl fun K_189 hK190 => ?_
        refine st_storeI 1 HE188 HH174 tv_2 rfl rfl rfl (by first | exact ke49 | (simp only [List.length_set]; exact ke49) | omega | (simp only [List.length_set]; omega) | (simp; omega)) (by exact ⟨by omega, by omega⟩) (wt0 rfl) fun w' HH191 => hK190 _ _ ?_
        refine wpList_nil ?_
        clear a_175 HE176 a_177 HE178 a_179 HE180 a_181 HE182 a_183 HE184 a_185 HE186 HH174 hK190 K_189
        have E50 : (fillN a4 a2 a1.1.toNat a1.2.1.toNat f a0 a3 a5 (v + 1)).2 = (fillF a4 a2 a1.1.toNat a1.2.1.toNat f (a0 + 1) ((fillN a4 a2 a1.1.toNat a1.2.1.toNat f a0 a3 a5 v).1.set a0 ((v : Nat) : Int)) ((fillN a4 a2 a1.1.toNat a1.2.1.toNat f a0 a3 a5 v).2)).2 := by
          rw [fillN_succ]
        have E51 : ((fillN a4 a2 a1.1.toNat a1.2.1.toNat f a0 a3 a5 (v + 1)).1.set a0 (((v + 1) : Nat) : Int)) = (((fillF a4 a2 a1.1.toNat a1.2.1.toNat f (a0 + 1) ((fillN a4 a2 a1.1.toNat a1.2.1.toNat f a0 a3 a5 v).1.set a0 ((v : Nat) : Int)) ((fillN a4 a2 a1.1.toNat a1.2.1.toNat f a0 a3 a5 v).2)).1).set a0 (y48 + 1)) := by
          first | (rw [fillN_succ, hyv]; done) | (rw [fillN_succ, hyv]; rfl)
        exact nrm ⟨a1.2.1.toNat - (v + 1), (by omega), v + 1, Ar46_1, cr46_1, Sr46_1, Sr46_0, rfl, HE188.sub ⟨rfl, rfl, rfl, rfl, rfl, trivial⟩, ((HH191.sel [3, 1, 2, 0] (by decide) rfl).to (by first | rfl | (rw [E50, E51]; done) | (rw [E50, E51]; rfl) | (simp only [E50, E51]; done) | (simp only [E50, E51]; rfl) | (rw [E50, E51]; simp only [List.length_set]; done))), (by first | omega | assumption | (simp; done) | simp_all)⟩
      · refine wp_exit ?_
        refine (thn_exit (thn_exit (blk_hit ?_)))
        refine fin0 HE161 rfl ?_
        have hF : (fillF a4 a2 a1.1.toNat a1.2.1.toNat (f + 1) a0 a3 a5) = (((fillN a4 a2 a1.1.toNat a1.2.1.toNat f a0 a3 a5 v).1.set a0 ((v : Nat) : Int)), (fillN a4 a2 a1.1.toNat a1.2.1.toNat f a0 a3 a5 v).2) := by
          first | (rw [fillF_top (by omega), if_pos (by assumption)]; done) | (rw [fillF_top (by omega), if_neg (by assumption)]; done) | (rw [fillF_go (by omega), show a1.2.1.toNat = v from by omega])
        exact ⟨_, _, _, _, rfl, by rw [hF]; exact HH146.sel [3, 1, 2, 0] (by decide) rfl⟩

theorem impl_fill1_all : ∀ f : Nat, ∀ (M : Nat → Prop) (a0 : Nat) (p1 : Nat) (es1 : List Value) (a1 : tMulti) (p2 : Nat) (es2 : List Value) (a2 : Int) (p3 : Nat) (A3 : Option Addr) (c3 n3 : Nat) (a3 : (List Int)) (S3 : Nat → Prop) (p4 g4 : Nat) (a4 : List tKey) (p5 : Nat) (A5 : Option Addr) (c5 : Nat) (a5 : (List (List Int))) (S5 : Nat → Prop) (p6 : Nat) (w : World) (HM : Held M w [rBlk p3 37 [.slice A3 n3 c3], rSo eInt S3 A3 c3 a3, rBlk p5 50 [.slice A5 a5.length c5], rVec (eSl eInt) 37 S5 A5 c5 a5] w) (h1 : eMulti.R w (Out M w) es1 a1) (hq1 : ∀ j v, es1[j]? = some v → w.cell? ⟨p1, 0 + j, none⟩ = some v) (Nhq1 : ¬ M p1) (h2 : eInt.R w (Out M w) es2 a2) (hq2 : ∀ j v, es2[j]? = some v → w.cell? ⟨p2, 0 + j, none⟩ = some v) (Nhq2 : ¬ M p2) (hn3 : a3.length = n3) (hq4 : ∀ j v, ([.map (some g4)] : List Value)[j]? = some v → w.cell? ⟨p4, 0 + j, none⟩ = some v) (Nhq4 : ¬ M p4) (h4 : MapK w g4 a4) (Ng4 : ¬ M g4) (hq6 : ∀ j v, ([.func (.func 104) #[] #[.pointer (some ⟨p1, 0, none⟩), .pointer (some ⟨p2, 0, none⟩), .pointer (some ⟨p3, 0, none⟩), .pointer (some ⟨p4, 0, none⟩), .pointer (some ⟨p5, 0, none⟩), .pointer (some ⟨p6, 0, none⟩)]] : List Value)[j]? = some v → w.cell? ⟨p6, 0 + j, none⟩ = some v) (Nhq6 : ¬ M p6) (s1 : a3.length = a1.1.toNat) (s2 : a0 ≤ a1.1.toNat) (s3 : a1.1.toNat < f + a0) (s4 : 1 ≤ a1.1 ∧ a1.1 ≤ 3) (s5 : 1 ≤ a1.2.1 ∧ a1.2.1 ≤ 100) (s6 : a5.length + a1.2.1.toNat ^ (a1.1.toNat - a0) ≤ 1000000),
    Calls Try.prog 104 #[.int .i64 (a0 : Int), .pointer (some ⟨p1, 0, none⟩), .pointer (some ⟨p2, 0, none⟩), .pointer (some ⟨p3, 0, none⟩), .pointer (some ⟨p4, 0, none⟩), .pointer (some ⟨p5, 0, none⟩), .pointer (some ⟨p6, 0, none⟩)] w fun e w' => ∃ (S3' : Nat → Prop) (A5' : Option Addr) (c5' : Nat) (S5' : Nat → Prop), e = .returned (.tuple #[]) ∧ Held M w [rBlk p3 37 [.slice A3 n3 c3], rSo eInt S3' A3 c3 (fillF a4 a2 a1.1.toNat a1.2.1.toNat (f) a0 a3 a5).1, rBlk p5 50 [.slice A5' (List.length ((fillF a4 a2 a1.1.toNat a1.2.1.toNat (f) a0 a3 a5).2)) c5'], rVec (eSl eInt) 37 S5' A5' c5' ((fillF a4 a2 a1.1.toNat a1.2.1.toNat (f) a0 a3 a5).2)] w' := by
  intro f
  induction f with
  | zero => intros; omega
  | succ n ih => intro M a0 p1 es1 a1 p2 es2 a2 p3 A3 c3 n3 a3 S3 p4 g4 a4 p5 A5 c5 a5 S5 p6 w HM h1 hq1 Nhq1 h2 hq2 Nhq2 hn3 hq4 Nhq4 h4 Ng4 hq6 Nhq6 s1 s2 s3 s4 s5 s6; exact impl_fill1 M a0 p1 es1 a1 p2 es2 a2 p3 A3 c3 n3 a3 S3 p4 g4 a4 p5 A5 c5 a5 S5 p6 n ih w HM h1 hq1 Nhq1 h2 hq2 Nhq2 hn3 hq4 Nhq4 h4 Ng4 hq6 Nhq6 s1 s2 s3 s4 s5 s6

theorem impl_fillT (M : Nat → Prop) (a0 : Nat) (p1 : Nat) (es1 : List Value) (a1 : tMulti) (p2 : Nat) (es2 : List Value) (a2 : Int) (p3 : Nat) (A3 : Option Addr) (c3 n3 : Nat) (a3 : (List Int)) (S3 : Nat → Prop) (p4 g4 : Nat) (a4 : List tKey) (p5 : Nat) (A5 : Option Addr) (c5 : Nat) (a5 : (List (List Int))) (S5 : Nat → Prop) (p6 : Nat) (w : World) (HM : Held M w [rBlk p3 37 [.slice A3 n3 c3], rSo eInt S3 A3 c3 a3, rBlk p5 50 [.slice A5 a5.length c5], rVec (eSl eInt) 37 S5 A5 c5 a5] w) (h1 : eMulti.R w (Out M w) es1 a1) (hq1 : ∀ j v, es1[j]? = some v → w.cell? ⟨p1, 0 + j, none⟩ = some v) (Nhq1 : ¬ M p1) (h2 : eInt.R w (Out M w) es2 a2) (hq2 : ∀ j v, es2[j]? = some v → w.cell? ⟨p2, 0 + j, none⟩ = some v) (Nhq2 : ¬ M p2) (hn3 : a3.length = n3) (hq4 : ∀ j v, ([.map (some g4)] : List Value)[j]? = some v → w.cell? ⟨p4, 0 + j, none⟩ = some v) (Nhq4 : ¬ M p4) (h4 : MapK w g4 a4) (Ng4 : ¬ M g4) (hq6 : ∀ j v, ([.func (.func 104) #[] #[.pointer (some ⟨p1, 0, none⟩), .pointer (some ⟨p2, 0, none⟩), .pointer (some ⟨p3, 0, none⟩), .pointer (some ⟨p4, 0, none⟩), .pointer (some ⟨p5, 0, none⟩), .pointer (some ⟨p6, 0, none⟩)]] : List Value)[j]? = some v → w.cell? ⟨p6, 0 + j, none⟩ = some v) (Nhq6 : ¬ M p6) (s1 : a3.length = a1.1.toNat) (s2 : a0 ≤ a1.1.toNat) (s3 : a1.1.toNat < (a1.1.toNat + 1) + a0) (s4 : 1 ≤ a1.1 ∧ a1.1 ≤ 3) (s5 : 1 ≤ a1.2.1 ∧ a1.2.1 ≤ 100) (s6 : a5.length + a1.2.1.toNat ^ (a1.1.toNat - a0) ≤ 1000000) :
    Calls Try.prog 104 #[.int .i64 (a0 : Int), .pointer (some ⟨p1, 0, none⟩), .pointer (some ⟨p2, 0, none⟩), .pointer (some ⟨p3, 0, none⟩), .pointer (some ⟨p4, 0, none⟩), .pointer (some ⟨p5, 0, none⟩), .pointer (some ⟨p6, 0, none⟩)] w fun e w' => ∃ (S3' : Nat → Prop) (A5' : Option Addr) (c5' : Nat) (S5' : Nat → Prop), e = .returned (.tuple #[]) ∧ Held M w [rBlk p3 37 [.slice A3 n3 c3], rSo eInt S3' A3 c3 (fillF a4 a2 a1.1.toNat a1.2.1.toNat ((a1.1.toNat + 1)) a0 a3 a5).1, rBlk p5 50 [.slice A5' (List.length ((fillF a4 a2 a1.1.toNat a1.2.1.toNat ((a1.1.toNat + 1)) a0 a3 a5).2)) c5'], rVec (eSl eInt) 37 S5' A5' c5' ((fillF a4 a2 a1.1.toNat a1.2.1.toNat ((a1.1.toNat + 1)) a0 a3 a5).2)] w' := impl_fill1_all (a1.1.toNat + 1) M a0 p1 es1 a1 p2 es2 a2 p3 A3 c3 n3 a3 S3 p4 g4 a4 p5 A5 c5 a5 S5 p6 w HM h1 hq1 Nhq1 h2 hq2 Nhq2 hn3 hq4 Nhq4 h4 Ng4 hq6 Nhq6 s1 s2 s3 s4 s5 s6

set_option maxRecDepth 100000 in
set_option maxHeartbeats 4000000 in
theorem spec_l06RuleOf (p0 o0 : Nat) (es0 : List Value) (a0 : tMulti) (a1 : Int) (A2 : Option Addr) (c2 : Nat) (a2 : (List Int)) (w : World) (h0 : eMulti.R w (Old w) es0 a0) (hq0 : ∀ j v, es0[j]? = some v → w.cell? ⟨p0, o0 + j, none⟩ = some v) (h2 : Sl eInt w (Old w) A2 c2 a2) :
    Calls Try.prog 99 #[.pointer (some ⟨p0, o0, none⟩), .int .i64 a1, .slice A2 a2.length c2] w fun e w' => e = .returned (.int .i64 (ruleI a0.2.2.2 a1 a2)) ∧ Below w.heap.size w w' := by
  have H0 := h0
  obtain ⟨Az0_3, cz0_3, rfl, gz0_0, gz0_1, gz0_2, gz0_3⟩ := shape_Multi h0
  have jz0_0 := gz0_0; unfold I64 at jz0_0
  have jz0_1 := gz0_1; unfold I64 at jz0_1
  have jz0_2 := gz0_2; unfold I64 at jz0_2
  have lz0_3 := gz0_3.len
  have l2 := h2.len
  have HH1 := Held.start Nob w
  refine enter (n := 40) Try.func99 rfl rfl rfl fun a_2 HE3 => ?_
  refine wp_seq ?_
  refine rg ?_
  refine pl_x HE3 HH1 (wt0 rfl) (x_assign rfl) rfl rfl fun a_4 HE5 => ?_
  refine wpList_nil ?_
  clear a_2 HE3
  refine nrm ?_
  refine wp_seq ?_
  refine wp_seq ?_
  refine rg ?_
  refine pl_x HE5 HH1 (wt0 rfl) (x_assign rfl) rfl rfl fun a_6 HE7 => ?_
  refine wpList_nil ?_
  clear a_4 HE5
  refine nrm ?_
  refine wp_block ?_
  refine lp (fun m a w' => ∃ (k : Nat), m = a0.2.2.2.length - k ∧ Env 40 [(7, .int .i64 (k : Int)), (0, .pointer (some ⟨p0, o0, none⟩)), (1, .int .i64 (a1)), (2, .slice A2 (a2.length) c2)] a ∧ Held Nob w [] w' ∧ (k ≤ a0.2.2.2.length) ∧ ((a0.2.2.2.take k).any (hitM a1 a2) = false)) (a0.2.2.2.length - (0)) ?_ ?_
  · exact ⟨0, rfl, HE7.sub ⟨(lkI rfl (by first | rfl | omega | (simp []; done))), rfl, rfl, rfl, trivial⟩, (HH1.sel [] (by decide) rfl), (by first | omega | assumption | (simp; done) | simp_all), (by rfl)⟩
  · rintro m a_8 w' ⟨k, rfl, HE9, HH10, p21_0, p21_1⟩
    refine wp_seq ?_
    refine wp_seq ?_
    refine rg ?_
    refine pl_x HE9 HH10 (wt0 rfl) (x_move rfl) rfl rfl fun a_11 HE12 => ?_
    refine pl_x HE12 HH10 (wt0 rfl) (x_move rfl) rfl rfl fun a_13 HE14 => ?_
    refine pl_x HE14 HH10 (wt0 rfl) (x_nilCheck rfl) rfl rfl fun a_15 HE16 => ?_
    refine pl_x HE16 HH10 (wt0 rfl) (x_fieldAddr fa_55_3 rfl) rfl rfl fun a_17 HE18 => ?_
    refine pl_x HE18 HH10 (wt0 rfl) (x_load1 tv_53 rfl (c_old (hq0 3 _ rfl))) rfl rfl fun a_19 HE20 => ?_
    refine pl_x HE20 HH10 (wt0 rfl) (x_len Try.underlying53 rfl) rfl rfl fun a_21 HE22 => ?_
    refine pl_x HE22 HH10 (wt0 rfl) (x_lss rfl rfl) rfl rfl fun a_23 HE24 => ?_
    refine wpList_nil ?_
    clear a_6 HE7 HH1 a_8 HE9 a_11 HE12 a_13 HE14 a_15 HE16 a_17 HE18 a_19 HE20 a_21 HE22
    refine nrm ?_
    refine cnd_d HE24 rfl (fun hc22 => ?_) (fun hc22 => ?_)
    · refine wp_skip ?_
      refine nrm ?_
      refine wp_seq ?_
      refine wp_block ?_
      refine wp_seq ?_
      refine rg ?_
      refine pl_x HE24 HH10 (wt0 rfl) (x_move rfl) rfl rfl fun a_25 HE26 => ?_
      refine pl_x HE26 HH10 (wt0 rfl) (x_nilCheck rfl) rfl rfl fun a_27 HE28 => ?_
      refine pl_x HE28 HH10 (wt0 rfl) (x_fieldAddr fa_55_3 rfl) rfl rfl fun a_29 HE30 => ?_
      refine pl_x HE30 HH10 (wt0 rfl) (x_load1 tv_53 rfl (c_old (hq0 3 _ rfl))) rfl rfl fun a_31 HE32 => ?_
      refine pl_x HE32 HH10 (wt0 rfl) (x_move rfl) rfl rfl fun a_33 HE34 => ?_
      have ke23 : k < a0.2.2.2.length := by omega
      obtain ⟨be23, fe23, ese23, Ae23, Re23, De23⟩ := el_old gz0_3 ke23
      obtain ⟨e23, xe23⟩ : ∃ x_, x_ = a0.2.2.2[k] := ⟨_, rfl⟩
      rw [← xe23] at Re23
      have Qe23 := Re23
      obtain ⟨Ae23_1, ce23_1, Ae23_2, ce23_2, Ae23_3, ce23_3, rfl, ge23_0, ge23_1, ge23_2, ge23_3, ge23_4⟩ := shape_MultiRule Re23
      have je23_0 := ge23_0; unfold I64 at je23_0
      have le23_1 := ge23_1.len
      have le23_2 := ge23_2.len
      have le23_3 := ge23_3.len
      have je23_4 := ge23_4; unfold I64 at je23_4
      refine pl_x HE34 HH10 (wt0 rfl) (x_indexAddr ts_53 rfl rfl Ae23 rfl ke23) rfl rfl fun a_35 HE36 => ?_
      refine pl_x HE36 HH10 (wt0 rfl) (x_fieldAddr fa_104_0 rfl) rfl rfl fun a_37 HE38 => ?_
      refine pl_x HE38 HH10 (wt0 rfl) (x_load1 tv_2 rfl (c_old (De23 0 _ rfl))) rfl rfl fun a_39 HE40 => ?_
      refine pl_x HE40 HH10 (wt0 rfl) (x_move rfl) rfl rfl fun a_41 HE42 => ?_
      refine pl_x HE42 HH10 (wt0 rfl) (x_eql rfl rfl) rfl rfl fun a_43 HE44 => ?_
      refine pl_x HE44 HH10 (wt0 rfl) (x_move rfl) rfl rfl fun a_45 HE46 => ?_
      by_cases hc24 : e23.1 = a1
      · refine pl_x HE46 HH10 (wtT HE46 rfl rfl rfl (beq_t hc24)) (x_move rfl) rfl rfl fun a_47 HE48 => ?_
        refine pl_x HE48 HH10 (wtT HE48 rfl rfl rfl (beq_t hc24)) (x_nilCheck rfl) rfl rfl fun a_49 HE50 => ?_
        refine pl_x HE50 HH10 (wtT HE50 rfl rfl rfl (beq_t hc24)) (x_fieldAddr fa_55_3 rfl) rfl rfl fun a_51 HE52 => ?_
        refine pl_x HE52 HH10 (wtT HE52 rfl rfl rfl (beq_t hc24)) (x_load1 tv_53 rfl (c_old (hq0 3 _ rfl))) rfl rfl fun a_53 HE54 => ?_
        refine pl_x HE54 HH10 (wtT HE54 rfl rfl rfl (beq_t hc24)) (x_move rfl) rfl rfl fun a_55 HE56 => ?_
        refine pl_x HE56 HH10 (wtT HE56 rfl rfl rfl (beq_t hc24)) (x_indexAddr ts_53 rfl rfl Ae23 rfl ke23) rfl rfl fun a_57 HE58 => ?_
        refine pl_x HE58 HH10 (wtT HE58 rfl rfl rfl (beq_t hc24)) (x_fieldAddr fa_104_1 rfl) rfl rfl fun a_59 HE60 => ?_
        refine pl_x HE60 HH10 (wtT HE60 rfl rfl rfl (beq_t hc24)) (x_load1 tv_37 rfl (c_old (De23 1 _ rfl))) rfl rfl fun a_61 HE62 => ?_
        refine pl_x HE62 HH10 (wtT HE62 rfl rfl rfl (beq_t hc24)) (x_move rfl) rfl rfl fun a_63 HE64 => ?_
        refine pl fun K_65 hK66 => ?_
        refine st_call HE64 (wtT HE64 rfl rfl rfl (beq_t hc24)) rfl rfl rfl en_115 rfl rfl (spec_l00Same _ _ _ _ e23.2.1 a2 _ (HH10.old ge23_1) (HH10.old h2)) fun e w' hr => ?_
        obtain ⟨rfl, hbr25⟩ := hr
        have HH67 := HH10.on hbr25.below
        refine ⟨_, rfl, fun a_68 HE69 => hK66 _ _ ?_⟩
        refine pl_x HE69 HH67 (wt0 rfl) (x_pickT rfl (beq_t hc24) rfl) rfl rfl fun a_70 HE71 => ?_
        refine wpList_nil ?_
        clear a_23 HE24 a_25 HE26 a_27 HE28 a_29 HE30 a_31 HE32 a_33 HE34 a_35 HE36 a_37 HE38 a_39 HE40 a_41 HE42 a_43 HE44 a_45 HE46 a_47 HE48 a_49 HE50 a_51 HE52 a_53 HE54 a_55 HE56 a_57 HE58 a_59 HE60 a_61 HE62 HH10 a_63 HE64 a_68 HE69 hK66 K_65
        refine nrm ?_
        refine cnd_b HE71 rfl (fun hc26 => ?_) (fun hc26 => ?_)
        · refine wp_seq ?_
          refine rg ?_
          refine pl_x HE71 HH67 (wt0 rfl) (x_move rfl) rfl rfl fun a_72 HE73 => ?_
          refine pl_x HE73 HH67 (wt0 rfl) (x_assign rfl) rfl rfl fun a_74 HE75 => ?_
          refine wpList_nil ?_
          clear a_70 HE71 a_72 HE73
          refine nrm ?_
          refine wp_ret ?_
          refine (blk_ret (thn_ret (thn_ret (blk_ret (thn_ret ?_)))))
          refine ret1 HE75 rfl (rv_tmp rfl) ?_
          have hF : (ruleI a0.2.2.2 a1 a2) = (k : Int) := by
            first | exact ruleI_hit (by omega) p21_1 (by rw [← xe23]; unfold hitM; grind) | exact ruleI_miss (by omega) p21_1
          exact ⟨by first | (rw [hF] <;> rfl) | rfl | (rw [hF]; simp only [Ending.returned.injEq, Value.slice.injEq, true_and, and_true]; first | omega | (simp; done)) | (rw [hF]; simp; omega), HH67.below⟩
        · refine wp_skip ?_
          refine blk_n ?_
          refine nrm ?_
          refine rg ?_
          refine pl_x HE71 HH67 (wt0 rfl) (x_move rfl) rfl rfl fun a_76 HE77 => ?_
          refine pl_x HE77 HH67 (wt0 rfl) (x_add rfl rfl (by exact ⟨by omega, by omega⟩)) rfl rfl fun a_78 HE79 => ?_
          refine pl_x HE79 HH67 (wt0 rfl) (x_assign rfl) rfl rfl fun a_80 HE81 => ?_
          refine wpList_nil ?_
          clear a_70 HE71 a_76 HE77 a_78 HE79
          exact nrm ⟨a0.2.2.2.length - (k + 1), (by omega), k + 1, rfl, HE81.sub ⟨(lkI rfl (by first | rfl | omega | (simp [p21_0, p21_1, hc22, xe23, hc24, hc26]; done))), rfl, rfl, rfl, trivial⟩, (HH67.sel [] (by decide) rfl), (by first | omega | assumption | (simp; done) | simp_all), (by exact any_step (by omega) p21_1 (by rw [← xe23]; unfold hitM; grind))⟩
      · refine pl_no HE46 (wtF HE46 rfl rfl rfl (beq_f hc24)) rfl rfl fun a_82 HE83 => ?_
        refine pl_no HE83 (wtF HE83 rfl rfl rfl (beq_f hc24)) rfl rfl fun a_84 HE85 => ?_
        refine pl_no HE85 (wtF HE85 rfl rfl rfl (beq_f hc24)) rfl rfl fun a_86 HE87 => ?_
        refine pl_no HE87 (wtF HE87 rfl rfl rfl (beq_f hc24)) rfl rfl fun a_88 HE89 => ?_
        refine pl_no HE89 (wtF HE89 rfl rfl rfl (beq_f hc24)) rfl rfl fun a_90 HE91 => ?_
        refine pl_no HE91 (wtF HE91 rfl rfl rfl (beq_f hc24)) rfl rfl fun a_92 HE93 => ?_
        refine pl_no HE93 (wtF HE93 rfl rfl rfl (beq_f hc24)) rfl rfl fun a_94 HE95 => ?_
        refine pl_no HE95 (wtF HE95 rfl rfl rfl (beq_f hc24)) rfl rfl fun a_96 HE97 => ?_
        refine pl_no HE97 (wtF HE97 rfl rfl rfl (beq_f hc24)) rfl rfl fun a_98 HE99 => ?_
        refine pl_no HE99 (wtF HE99 rfl rfl rfl (beq_f hc24)) rfl rfl fun a_100 HE101 => ?_
        refine pl_x HE101 HH10 (wt0 rfl) (x_pickF rfl (beq_f hc24) rfl) rfl rfl fun a_102 HE103 => ?_
        refine wpList_nil ?_
        clear a_23 HE24 a_25 HE26 a_27 HE28 a_29 HE30 a_31 HE32 a_33 HE34 a_35 HE36 a_37 HE38 a_39 HE40 a_41 HE42 a_43 HE44 a_45 HE46 a_82 HE83 a_84 HE85 a_86 HE87 a_88 HE89 a_90 HE91 a_92 HE93 a_94 HE95 a_96 HE97 a_98 HE99 a_100 HE101
        refine nrm ?_
        refine cndF HE103 rfl rfl ?_
        refine wp_skip ?_
        refine blk_n ?_
        refine nrm ?_
        refine rg ?_
        refine pl_x HE103 HH10 (wt0 rfl) (x_move rfl) rfl rfl fun a_104 HE105 => ?_
        refine pl_x HE105 HH10 (wt0 rfl) (x_add rfl rfl (by exact ⟨by omega, by omega⟩)) rfl rfl fun a_106 HE107 => ?_
        refine pl_x HE107 HH10 (wt0 rfl) (x_assign rfl) rfl rfl fun a_108 HE109 => ?_
        refine wpList_nil ?_
        clear a_102 HE103 a_104 HE105 a_106 HE107
        exact nrm ⟨a0.2.2.2.length - (k + 1), (by omega), k + 1, rfl, HE109.sub ⟨(lkI rfl (by first | rfl | omega | (simp [p21_0, p21_1, hc22, xe23, hc24]; done))), rfl, rfl, rfl, trivial⟩, (HH10.sel [] (by decide) rfl), (by first | omega | assumption | (simp; done) | simp_all), (by exact any_step (by omega) p21_1 (by rw [← xe23]; unfold hitM; grind))⟩
    · refine wp_exit ?_
      refine (thn_exit (thn_exit (blk_hit ?_)))
      refine nrm ?_
      refine wp_seq ?_
      refine rg ?_
      refine pl_x HE24 HH10 (wt0 rfl) (x_assign rfl) rfl rfl fun a_110 HE111 => ?_
      refine wpList_nil ?_
      clear a_23 HE24
      refine nrm ?_
      refine wp_ret ?_
      refine ret1 HE111 rfl (rv_tmp rfl) ?_
      have hF : (ruleI a0.2.2.2 a1 a2) = -1 := by
        first | exact ruleI_hit (by omega) p21_1 (by rw [← xe0]; unfold hitM; grind) | exact ruleI_miss (by omega) p21_1
      exact ⟨by first | (rw [hF] <;> rfl) | rfl | (rw [hF]; simp only [Ending.returned.injEq, Value.slice.injEq, true_and, and_true]; first | omega | (simp; done)) | (rw [hF]; simp; omega), HH10.below⟩

theorem allF_each {S : Nat} : ∀ (t : Nat) (r : List Int), r ∈ allF S t → r.length = t
  | 0, r, h => by rw [List.mem_singleton.1 h]; rfl
  | t + 1, r, h => by
    rw [allF, List.mem_flatMap] at h
    obtain ⟨u, _, h⟩ := h
    obtain ⟨q, hq, rfl⟩ := List.mem_map.1 h
    rw [List.length_cons, allF_each t q hq]

theorem hReads_each {m : tMulti} {st : Int} (r : List Int) (h : r ∈ hReads m st) : r.length = m.1.toNat := by
  rw [hReads_eq] at h
  exact allF_each _ r (List.mem_filter.1 h).1

theorem hReads_len {m : tMulti} (st : Int) (h : validMulti m = true) : (hReads m st).length ≤ 27 := by
  obtain ⟨v0, v1, v2, v3⟩ := validMulti_facts h
  rw [hReads_eq]
  refine Nat.le_trans (List.length_filter_le _ _) ?_
  rw [allF_len]
  exact Nat.le_trans (Nat.pow_le_pow_left (show m.2.1.toNat ≤ 3 by omega) _) (Nat.pow_le_pow_right (show 0 < 3 by omega) (show m.1.toNat ≤ 3 by omega))

def haltRl (m : tMulti) (k : Int) (r : List Int) : tMultiRule := (k, r, r, List.replicate m.1.toNat 0, m.2.2.1)

def moveRl (by_ : Int) (x : tMultiRule) : tMultiRule := (x.1 + by_, x.2.1, x.2.2.1, x.2.2.2.1, x.2.2.2.2 + by_)

theorem moveRl_zero (x : tMultiRule) : moveRl 0 x = x := by unfold moveRl; rw [Int.add_zero, Int.add_zero]

/-- The rules of a machine, and those with which its first k states halt. -/
def seqB (m : tMulti) (k : Nat) : List tMultiRule := m.2.2.2 ++ (List.range k).flatMap fun (j : Nat) => (hReads m (j : Int)).map (haltRl m (j : Int))

theorem seqB_zero (m : tMulti) : seqB m 0 = m.2.2.2 := by simp [seqB]

theorem seqB_succ (m : tMulti) (k : Nat) : seqB m (k + 1) = seqB m k ++ (hReads m (k : Int)).map (haltRl m (k : Int)) := by
  unfold seqB
  rw [List.range_succ, List.flatMap_append, ← List.append_assoc]; simp

def seqR (a b : tMulti) : List tMultiRule := seqB a a.2.2.1.toNat ++ b.2.2.2.map (moveRl a.2.2.1)

def seqM (a b : tMulti) : tMulti := (a.1, a.2.1, a.2.2.1 + b.2.2.1, sortMR (seqR a b))

def seqMulti (a b : tMulti) : tMulti × Int :=
  if validMulti a = true ∧ validMulti b = true then (if a.1 = b.1 ∧ a.2.1 = b.2.1 then (if validMulti (seqM a b) = true then (seqM a b, 0) else ((0, 0, 0, []), 5)) else ((0, 0, 0, []), 2)) else ((0, 0, 0, []), 1)

theorem seqB_len {m : tMulti} (h : validMulti m = true) : ∀ k, (seqB m k).length ≤ 60 + 27 * k
  | 0 => by rw [seqB_zero]; exact (validMulti_facts h).2.2.2
  | k + 1 => by
    have h1 := seqB_len h k
    have h2 := hReads_len (k : Int) h
    rw [seqB_succ, List.length_append, List.length_map]; omega

theorem validMulti_rng {m : tMulti} (h : validMulti m = true) : ∀ r ∈ m.2.2.2, ((0 ≤ r.1 ∧ r.1 < m.2.2.1) ∧ 0 ≤ r.2.2.2.2 ∧ r.2.2.2.2 < m.2.2.1) ∧ r.2.1.length = m.1.toNat ∧ r.2.2.1.length = m.1.toNat ∧ r.2.2.2.1.length = m.1.toNat := by
  intro r hr
  obtain ⟨i, hi, rfl⟩ := List.getElem_of_mem hr
  have hlen := (validMulti_rule h hi).1
  unfold validMulti at h
  simp only [Bool.and_eq_true, Bool.not_eq_true', List.any_eq_false] at h
  have hb := h.2 i (List.mem_range.2 hi)
  unfold badMR at hb
  rw [List.getElem?_eq_getElem hi, Option.getD_some] at hb
  simp only [Bool.or_eq_true, Bool.not_eq_true', not_or, Bool.not_eq_false] at hb
  have h1 := hb.1
  unfold validMR at h1
  simp only [Bool.and_eq_true] at h1
  have e1 := withinB_true.1 h1.1.1.1.1.1.1.1
  have e2 := withinB_true.1 h1.1.1.1.1.1.1.2
  exact ⟨⟨by omega, by omega⟩, by omega, by omega, by omega⟩

theorem allF_nodup (S : Nat) : ∀ t, (allF S t).Nodup
  | 0 => by simp [allF]
  | t + 1 => by
    rw [allF]
    refine List.pairwise_flatMap.2 ⟨fun u _ => List.pairwise_map.2 ((allF_nodup S t).imp fun h e => h (List.cons.inj e).2), List.pairwise_lt_range.imp fun {a b} hab x hx y hy => ?_⟩
    obtain ⟨p, _, rfl⟩ := List.mem_map.1 hx
    obtain ⟨q, _, rfl⟩ := List.mem_map.1 hy
    intro e
    have := (List.cons.inj e).1
    omega

theorem hReads_nodup (m : tMulti) (st : Int) : (hReads m st).Nodup := by
  rw [hReads_eq]
  exact (allF_nodup _ _).filter _

theorem seqR_apart {a b : tMulti} (ha : validMulti a = true) (hb : validMulti b = true) : apartMR (seqR a b) := by
  have hra := validMulti_rng ha
  have hrb := validMulti_rng hb
  obtain ⟨v0, v1, v2, v3⟩ := validMulti_facts ha
  have hst : ∀ x ∈ seqB a a.2.2.1.toNat, x.1 < a.2.2.1 := by
    intro x hx
    rcases List.mem_append.1 hx with hx | hx
    · exact (hra x hx).1.1.2
    · obtain ⟨j, hj, hx⟩ := List.mem_flatMap.1 hx
      obtain ⟨r, _, rfl⟩ := List.mem_map.1 hx
      have := List.mem_range.1 hj
      show (j : Int) < a.2.2.1
      omega
  refine List.pairwise_append.2 ⟨List.pairwise_append.2 ⟨(validMulti_up ha).imp fun h => by omega, ?_, ?_⟩, ?_, ?_⟩
  · refine List.pairwise_flatMap.2 ⟨fun j _ => List.pairwise_map.2 ((hReads_nodup a (j : Int)).imp fun h e => h (cmpMR_zero.1 e).2), List.pairwise_lt_range.imp fun {i j} hij x hx y hy => ?_⟩
    obtain ⟨p, _, rfl⟩ := List.mem_map.1 hx
    obtain ⟨q, _, rfl⟩ := List.mem_map.1 hy
    intro e
    have h1 : (i : Int) = (j : Int) := (cmpMR_zero.1 e).1
    omega
  · intro x hx y hy e
    obtain ⟨j, _, hy⟩ := List.mem_flatMap.1 hy
    obtain ⟨r, hr, rfl⟩ := List.mem_map.1 hy
    obtain ⟨h1, h2⟩ := cmpMR_zero.1 e
    have h3 : x.1 = (j : Int) := h1
    have h4 : x.2.1 = r := h2
    rw [hReads_eq] at hr
    have h5 := (List.mem_filter.1 hr).2
    simp only [decide_eq_true_eq] at h5
    exact h5 (List.mem_map.2 ⟨x, hx, by unfold ruleK; rw [h3, h4]⟩)
  · refine List.pairwise_map.2 ((validMulti_up hb).imp fun {x y} h e => ?_)
    obtain ⟨h1, h2⟩ := cmpMR_zero.1 e
    have h3 : x.1 + a.2.2.1 = y.1 + a.2.2.1 := h1
    have h4 : x.2.1 = y.2.1 := h2
    have := (cmpMR_zero (a := x) (b := y)).2 ⟨by omega, h4⟩
    omega
  · intro x hx y hy e
    obtain ⟨z, hz, rfl⟩ := List.mem_map.1 hy
    have h1 : x.1 = z.1 + a.2.2.1 := (cmpMR_zero.1 e).1
    have h2 := hst x hx
    have h3 := (hrb z hz).1.1.1
    omega

theorem seqMulti_ct (a b : tMulti) : (cv_Multi (seqMulti a b).1 : Int) ≤ 1000000000 := by
  have h0 : (cv_Multi (0, 0, 0, []) : Int) ≤ 1000000000 := by decide
  unfold seqMulti
  split
  · split
    · split
      · rename_i h
        obtain ⟨v0, v1, v2, v3⟩ := validMulti_facts h
        have hr := validMulti_rng h
        show (ct_SMultiRule (seqM a b).2.2.2 : Int) ≤ _
        have h1 : ct_SMultiRule (seqM a b).2.2.2 ≤ 1000 * (seqM a b).2.2.2.length := cntL_bound fun x hx => by
          obtain ⟨_, l1, l2, l3⟩ := hr x hx
          have a1 := ct_L_len x.2.1
          have a2 := ct_L_len x.2.2.1
          have a3 := ct_L_len x.2.2.2.1
          show 1 + ct_L x.2.1 + ct_L x.2.2.1 + ct_L x.2.2.2.1 + 1 ≤ 1000
          omega
        omega
      · exact h0
    · exact h0
  · exact h0

def moveR2 (x : tMultiRule) (by_ : Int) : tMultiRule := moveRl by_ x

theorem one_L (w : World) (S : Nat → Prop) (es : List Value) (x : List Int) (h : (eSl eInt).R w S es x) : ∀ v ∈ es, v.oneCell' = true := by
  obtain ⟨A, c, rfl, _⟩ := h
  intro v hv
  rw [List.mem_singleton.1 hv]; rfl

set_option maxRecDepth 100000 in
set_option maxHeartbeats 4000000 in
theorem impl_haltingReadsV (es0 : List Value) (a0 : tMulti) (a1 : Int) (w : World) (h0 : eMulti.R w (Old w) es0 a0) (s0 : ∀ r ∈ a0.2.2.2, r.2.1.length ≤ 3) (s1 : (1 ≤ a0.1 ∧ a0.1 ≤ 3) ∧ (1 ≤ a0.2.1 ∧ a0.2.1 ≤ 100) ∧ a0.2.2.2.length ≤ 1000) (s2 : 0 ≤ a1 ∧ a1 ≤ 1000) :
    Calls Try.prog 66 #[.agg es0.toArray, .int .i64 a1] w fun e w' => ∃ (A0' : Option Addr) (c0' : Nat) (S0' : Nat → Prop), e = .returned (.slice A0' (hReads a0 a1).length c0') ∧ Held Nob w [rVec (eSl eInt) 37 S0' A0' c0' (hReads a0 a1)] w' := by
  have H0 := h0
  obtain ⟨Az0_3, cz0_3, rfl, gz0_0, gz0_1, gz0_2, gz0_3⟩ := shape_Multi h0
  have jz0_0 := gz0_0; unfold I64 at jz0_0
  have jz0_1 := gz0_1; unfold I64 at jz0_1
  have jz0_2 := gz0_2; unfold I64 at jz0_2
  have lz0_3 := gz0_3.len
  have hroom : ([] : List (List Int)).length + a0.2.1.toNat ^ (a0.1.toNat - 0) ≤ 1000000 := pow_room (by omega) (by omega)
  have HH1 := Held.start Nob w
  refine enter (n := 19) Try.func66 rfl rfl rfl fun a_2 HE3 => ?_
  refine wp_seq ?_
  refine rg ?_
  refine pl fun K_4 hK5 => ?_
  refine st_box (cs := [.int .i64 (a0.1), .int .i64 (a0.2.1), .int .i64 (a0.2.2.1), .slice Az0_3 (a0.2.2.2.length) cz0_3]) HE3 HH1 rfl rfl (wt0 rfl) rfl fun q21 a_6 w' HE7 HH8 => hK5 _ _ ?_
  refine pl fun K_9 hK10 => ?_
  refine st_box (cs := [.int .i64 (a1)]) HE7 HH8 rfl rfl (wt0 rfl) rfl fun q22 a_11 w' HE12 HH13 => hK10 _ _ ?_
  refine pl_x HE12 HH13 (wt0 rfl) (x_assign rfl) rfl rfl fun a_14 HE15 => ?_
  refine wpList_nil ?_
  clear a_2 HE3 HH1 K_4 hK5 a_6 HE7 HH8 a_11 HE12 hK10 K_9
  refine nrm ?_
  refine wp_seq ?_
  refine rg ?_
  refine pl_x HE15 HH13 (wt0 rfl) (x_loadN (cs := [.int .i64 (a0.1), .int .i64 (a0.2.1), .int .i64 (a0.2.2.1), .slice Az0_3 (a0.2.2.2.length) cz0_3]) tv_55 rfl rfl (c_blkN 1 rfl)) rfl rfl fun a_16 HE17 => ?_
  refine pl fun K_18 hK19 => ?_
  refine st_call HE17 (wt0 rfl) rfl rfl rfl en_103 rfl rfl (impl_multiRules [.int .i64 (a0.1), .int .i64 (a0.2.1), .int .i64 (a0.2.2.1), .slice Az0_3 (a0.2.2.2.length) cz0_3] a0 _ (HH13.oldR H0) (by assumption) (by omega)) fun e w' hr => ?_
  obtain ⟨gr23_0, rfl, hbr23⟩ := hr
  have HH20 := HH13.app hbr23
  clear hbr23
  have HH21 : Held Nob w ([rMap gr23_0 (a0.2.2.2.map ruleK), rBlk q22 2 [.int .i64 (a1)], rBlk q21 55 [.int .i64 (a0.1), .int .i64 (a0.2.1), .int .i64 (a0.2.2.1), .slice Az0_3 (a0.2.2.2.length) cz0_3]]) _ := HH20
  refine ⟨_, rfl, fun a_22 HE23 => hK19 _ _ ?_⟩
  refine pl fun K_24 hK25 => ?_
  refine st_lit (m := 0) (cs := []) (e := 37) HE23 HH21 (run_lit ts_50 HE23 (vs := []) rfl rfl (by simp [Value.cells]) rfl (by decide)) (wt0 rfl) rfl rfl fun q24 a_26 w' HE27 HH28 => hK25 _ _ ?_
  refine pl fun K_29 hK30 => ?_
  refine st_alloc HE27 HH28 tv_133 (wt0 rfl) rfl fun q25 a_31 w' HE32 HH33 => hK30 _ _ ?_
  refine pl fun K_34 hK35 => ?_
  refine st_alloc HE32 HH33 tv_50 (wt0 rfl) rfl fun q26 a_36 w' HE37 HH38 => hK35 _ _ ?_
  refine pl fun K_39 hK40 => ?_
  refine st_store (vs := [.map (some gr23_0)]) 1 HE37 HH38 tv_133 rfl rfl rfl rfl rfl rfl (by simp [Value.oneCell']) (wt0 rfl) fun w' HH41 => hK40 _ _ ?_
  refine pl fun K_42 hK43 => ?_
  refine st_store (vs := [.slice (some ⟨q24, 0, none⟩) (0) 0]) 0 HE37 HH41 tv_50 rfl rfl rfl rfl rfl rfl (by simp [Value.oneCell']) (wt0 rfl) fun w' HH44 => hK43 _ _ ?_
  refine wpList_nil ?_
  clear a_14 HE15 HH13 HH20 a_16 HE17 K_18 hK19 a_22 HE23 HH21 K_24 hK25 a_26 HE27 HH28 K_29 hK30 a_31 HE32 HH33 K_34 hK35 HH38 K_39 hK40 HH41 hK43 K_42
  refine nrm ?_
  refine wp_seq ?_
  refine rg ?_
  refine pl_x HE37 HH44 (wt0 rfl) (x_fieldAddr fa_55_0 rfl) rfl rfl fun a_45 HE46 => ?_
  refine pl_x HE46 HH44 (wt0 rfl) (x_load1 tv_2 rfl (c_blk 5 rfl rfl)) rfl rfl fun a_47 HE48 => ?_
  refine pl fun K_49 hK50 => ?_
  refine st_make (E := eInt) (x := (0 : Int)) (k := ((a0.1).toNat)) HE48 HH44 ts_37 tv_2 rfl (fun _ => oI ⟨by omega, by omega⟩) rfl rfl (by omega) (by omega) (by omega) (by omega) (wt0 rfl) rfl fun q27 a_51 w' HE52 HH53 => hK50 _ _ ?_
  have hlq27 : (List.replicate ((a0.1).toNat) (0 : Int)).length = (a0.1).toNat := List.length_replicate
  refine pl fun K_54 hK55 => ?_
  refine st_alloc HE52 HH53 tv_37 (wt0 rfl) rfl fun q28 a_56 w' HE57 HH58 => hK55 _ _ ?_
  refine pl fun K_59 hK60 => ?_
  refine st_store (vs := [.slice (some ⟨q27, 0, none⟩) ((List.replicate ((a0.1).toNat) (0 : Int)).length) ((a0.1).toNat)]) 0 HE57 HH58 tv_37 rfl rfl rfl rfl rfl rfl (by simp [Value.oneCell']) (wt0 rfl) fun w' HH61 => hK60 _ _ ?_
  refine wpList_nil ?_
  clear a_36 HE37 a_45 HE46 a_47 HE48 HH44 K_49 hK50 a_51 HE52 HH53 K_54 hK55 HH58 hK60 K_59
  refine nrm ?_
  refine wp_seq ?_
  refine rg ?_
  refine pl fun K_62 hK63 => ?_
  refine st_alloc HE57 HH61 tv_121 (wt0 rfl) rfl fun q29 a_64 w' HE65 HH66 => hK63 _ _ ?_
  refine wpList_nil ?_
  clear a_56 HE57 HH61 hK63 K_62
  refine nrm ?_
  refine wp_seq ?_
  refine rg ?_
  refine pl_x HE65 HH66 (wt0 rfl) (x_makeFunc rfl rfl) rfl rfl fun a_67 HE68 => ?_
  refine pl fun K_69 hK70 => ?_
  refine st_store (vs := [.func (.func 104) #[] #[.pointer (some ⟨q21, 0, none⟩), .pointer (some ⟨q22, 0, none⟩), .pointer (some ⟨q28, 0, none⟩), .pointer (some ⟨q25, 0, none⟩), .pointer (some ⟨q26, 0, none⟩), .pointer (some ⟨q29, 0, none⟩)]]) 0 HE68 HH66 tv_121 rfl rfl rfl rfl rfl rfl (by simp [Value.oneCell']) (wt0 rfl) fun w' HH71 => hK70 _ _ ?_
  refine wpList_nil ?_
  clear a_64 HE65 HH66 hK70 K_69
  refine nrm ?_
  refine wp_seq ?_
  refine rg ?_
  refine pl_x HE68 HH71 (wt0 rfl) (x_load1 tv_121 rfl (c_blk 0 rfl rfl)) rfl rfl fun a_72 HE73 => ?_
  refine pl fun K_74 hK75 => ?_
  have HH76 := HH71.sel [5, 0, 1, 2, 3, 4, 6, 7, 8] (by decide) rfl
  have HH77 := Held.vecFlat (E := (eSl eInt)) (xs := []) (css := []) HH76 rfl (Nat.zero_le _) (fun i x hx => by simp at hx)
  have HH78 := HH77.sel [2, 3, 4, 0, 1, 5, 6, 7, 8] (by decide) rfl
  have HH79 : Held Nob w ([rBlk q28 37 [.slice (some ⟨q27, 0, none⟩) ((List.replicate ((a0.1).toNat) (0 : Int)).length) ((a0.1).toNat)], rSo eInt (fun b => b = q27) (some ⟨q27, 0, none⟩) ((a0.1).toNat) (List.replicate ((a0.1).toNat) (0 : Int)), rBlk q26 50 [.slice (some ⟨q24, 0, none⟩) (0) 0], rVec (eSl eInt) 37 (fun b => b = q24) (some ⟨q24, 0, none⟩) (List.length (α := (List Int)) []) ([] : List (List Int))] ++ [rBlk q29 121 [.func (.func 104) #[] #[.pointer (some ⟨q21, 0, none⟩), .pointer (some ⟨q22, 0, none⟩), .pointer (some ⟨q28, 0, none⟩), .pointer (some ⟨q25, 0, none⟩), .pointer (some ⟨q26, 0, none⟩), .pointer (some ⟨q29, 0, none⟩)]], rBlk q25 133 [.map (some gr23_0)], rMap gr23_0 (a0.2.2.2.map ruleK), rBlk q22 2 [.int .i64 (a1)], rBlk q21 55 [.int .i64 (a0.1), .int .i64 (a0.2.1), .int .i64 (a0.2.2.1), .slice Az0_3 (a0.2.2.2.length) cz0_3]]) _ := HH78
  refine st_callD HE73 (wt0 rfl) rfl rfl rfl en_104 rfl rfl (impl_fillT (Foot [rBlk q28 37 [.slice (some ⟨q27, 0, none⟩) ((List.replicate ((a0.1).toNat) (0 : Int)).length) ((a0.1).toNat)], rSo eInt (fun b => b = q27) (some ⟨q27, 0, none⟩) ((a0.1).toNat) (List.replicate ((a0.1).toNat) (0 : Int)), rBlk q26 50 [.slice (some ⟨q24, 0, none⟩) (0) 0], rVec (eSl eInt) 37 (fun b => b = q24) (some ⟨q24, 0, none⟩) (List.length (α := (List Int)) []) ([] : List (List Int))]) 0 _ [.int .i64 (a0.1), .int .i64 (a0.2.1), .int .i64 (a0.2.2.1), .slice Az0_3 (a0.2.2.2.length) cz0_3] a0 _ [.int .i64 (a1)] a1 _ _ _ _ (List.replicate ((a0.1).toNat) (0 : Int)) _ _ _ (a0.2.2.2.map ruleK) _ _ _ ([] : List (List Int)) _ _ _ HH79.focus (HH79.lendO H0) (c_blkN 8 rfl _ HH79) (HH79.nfB (i := 4) rfl) ⟨rfl, by exact ⟨by omega, by omega⟩⟩ (c_blkN 7 rfl _ HH79) (HH79.nfB (i := 3) rfl) (by first | rfl | omega) (c_blkN 5 rfl _ HH79) (HH79.nfB (i := 1) rfl) (HH79.getMap (i := 6) rfl) (HH79.nfMap (i := 2) rfl) (c_blkN 4 rfl _ HH79) (HH79.nfB (i := 0) rfl) (by first | omega | (simp; done)) (by first | omega | (simp; done)) (by omega) (by omega) (by omega) (by first | exact fillN_room (by omega) (by omega) (by omega) s6 | assumption)) fun e w' hr => ?_
  obtain ⟨Sr30_0, Ar30_1, cr30_1, Sr30_1, rfl, hbr30⟩ := hr
  have HH80 := HH79.back hbr30
  clear hbr30
  have HH81 : Held Nob w ([rBlk q28 37 [.slice (some ⟨q27, 0, none⟩) ((List.replicate ((a0.1).toNat) (0 : Int)).length) ((a0.1).toNat)], rSo eInt Sr30_0 (some ⟨q27, 0, none⟩) ((a0.1).toNat) ((fillF (a0.2.2.2.map ruleK) a1 a0.1.toNat a0.2.1.toNat (a0.1.toNat + 1) 0 (List.replicate ((a0.1).toNat) (0 : Int)) ([] : List (List Int))).1), rBlk q26 50 [.slice Ar30_1 ((List.length ((fillF (a0.2.2.2.map ruleK) a1 a0.1.toNat a0.2.1.toNat (a0.1.toNat + 1) 0 (List.replicate ((a0.1).toNat) (0 : Int)) ([] : List (List Int))).2))) cr30_1], rVec (eSl eInt) 37 Sr30_1 Ar30_1 cr30_1 ((fillF (a0.2.2.2.map ruleK) a1 a0.1.toNat a0.2.1.toNat (a0.1.toNat + 1) 0 (List.replicate ((a0.1).toNat) (0 : Int)) ([] : List (List Int))).2)] ++ [rBlk q29 121 [.func (.func 104) #[] #[.pointer (some ⟨q21, 0, none⟩), .pointer (some ⟨q22, 0, none⟩), .pointer (some ⟨q28, 0, none⟩), .pointer (some ⟨q25, 0, none⟩), .pointer (some ⟨q26, 0, none⟩), .pointer (some ⟨q29, 0, none⟩)]], rBlk q25 133 [.map (some gr23_0)], rMap gr23_0 (a0.2.2.2.map ruleK), rBlk q22 2 [.int .i64 (a1)], rBlk q21 55 [.int .i64 (a0.1), .int .i64 (a0.2.1), .int .i64 (a0.2.2.1), .slice Az0_3 (a0.2.2.2.length) cz0_3]]) _ := HH80
  have hAr30_0 := fillF_len (a0.2.2.2.map ruleK) a1 a0.1.toNat a0.2.1.toNat (a0.1.toNat + 1) 0 (List.replicate ((a0.1).toNat) (0 : Int)) ([] : List (List Int))
  refine ⟨_, rfl, fun a_82 HE83 => hK75 _ _ ?_⟩
  refine wpList_nil ?_
  clear a_67 HE68 HH71 HH76 HH77 HH78 HH79 HH80 a_72 HE73 hK75 K_74
  refine nrm ?_
  refine wp_seq ?_
  refine rg ?_
  refine pl_x HE83 HH81 (wt0 rfl) (x_load1 tv_50 rfl (c_blk 2 rfl rfl)) rfl rfl fun a_84 HE85 => ?_
  refine pl_x HE85 HH81 (wt0 rfl) (x_assign rfl) rfl rfl fun a_86 HE87 => ?_
  refine wpList_nil ?_
  clear a_82 HE83 a_84 HE85
  refine nrm ?_
  refine wp_ret ?_
  refine ret1 HE87 rfl (rv_tmp rfl) ?_
  have hF : (hReads a0 a1) = (fillF (a0.2.2.2.map ruleK) a1 a0.1.toNat a0.2.1.toNat (a0.1.toNat + 1) 0 (List.replicate ((a0.1).toNat) (0 : Int)) ([] : List (List Int))).2 := by
    rfl
  exact ⟨_, _, _, by first | (rw [hF] <;> rfl) | rfl | (rw [hF]; simp only [Ending.returned.injEq, Value.slice.injEq, true_and, and_true]; first | omega | (simp; done)) | (rw [hF]; simp; omega), by rw [hF]; exact HH81.sel [3] (by decide) rfl⟩

end Go.Proofs.Ythfihlfjphiihaa
