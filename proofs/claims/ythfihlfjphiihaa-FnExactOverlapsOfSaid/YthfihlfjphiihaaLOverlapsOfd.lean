/- What the proof of FnExactOverlapsOf needs: contracts of the functions that it reaches, each once. -/
import Derived.Test.YthfihlfjphiihaaProg
import Derived.Test.YthfihlfjphiihaaQMem
import Derived.Test.YthfihlfjphiihaaQOpen
import Derived.Test.YthfihlfjphiihaaLOverlapsOfa
import Derived.Test.YthfihlfjphiihaaLOverlapsOfb
import Derived.Test.YthfihlfjphiihaaLOverlapsOfc
import Derived.WalkKit
import Derived.WalkSpells
import Derived.Below
import Derived.LoopTactic
import Derived.Outline
import Derived.Deep.QuietTactic
import Derived.BigQuiet
import Derived.Deep.LoopGhost
import Derived.Handy
import Derived.Lib.Hide
import Derived.Shelf.Abstract
import Derived.StillTailTactics
import Derived.OwnWalk
import Derived.Maps.AppendAt
import Derived.RegionTactic
import Derived.Deep.RegionHeld3
import Derived.IntWalk
import Derived.Deep.Upon
import Derived.Laws.OwnMore
import Derived.Maps.AppendAt
import Derived.Laws.Small
import Derived.Lib.FrozenHead
import Derived.Lib.RuneBytes
import Derived.Lib.LaidTab
import Derived.Laws.StructEq
import Derived.Lib.SliceRun
import Derived.Lib.AppendZeros
import Derived.Lib.ItoaLen
import Derived.Lib.Join
import Derived.Shelf.Strconv.Itoa4
import Derived.Shelf.Strings.OnBuilder
import Derived.Shelf.Strings.BuilderK
import Derived.Shelf.Strings.BuilderRune
import Derived.Shelf.LaysM
import Derived.Ground.NamesProg
namespace Go.Proofs.Ythfihlfjphiihaa
open Go.RowKit

def okW (x : List (List Int)) : Bool := !x.any notWord

def rowO (l : List tRewrite) (i j : Nat) : List (List (List Int)) := ovlF (l[i]?.getD default) (l[j]?.getD default) ((i : Int) == (j : Int))

def rowsO (l : List tRewrite) (i m : Nat) : List (List (List Int)) := (List.range m).flatMap (rowO l i)

def allO (l : List tRewrite) (m : Nat) : List (List (List Int)) := (List.range m).flatMap fun i => rowsO l i l.length

def goodO (xs : List (List (List Int))) : Bool := xs.all okW && decide (xs.length ≤ 300)

def overlapsOf (l : List tRewrite) : List (List (List Int)) × Int := if validRew l = true then (if goodO (allO l l.length) = true then (allO l l.length, 0) else ([], 5)) else ([], 1)

theorem rng_split {α : Type} (f : Nat → List α) {i : Nat} : ∀ {n : Nat}, i < n → ∃ s, (List.range n).flatMap f = (List.range i).flatMap f ++ (f i ++ s)
  | 0, h => absurd h (Nat.not_lt_zero _)
  | n + 1, h => by
    rw [List.range_succ, List.flatMap_append]
    by_cases e : i = n
    · subst e; exact ⟨[], by simp⟩
    · obtain ⟨s, hs⟩ := rng_split f (show i < n by omega)
      exact ⟨s ++ f n, by rw [hs]; simp⟩

theorem rowsO_succ (l : List tRewrite) (i m : Nat) : rowsO l i (m + 1) = rowsO l i m ++ rowO l i m := by
  unfold rowsO; rw [List.range_succ, List.flatMap_append]; simp

theorem allO_succ (l : List tRewrite) (m : Nat) : allO l (m + 1) = allO l m ++ rowsO l m l.length := by
  unfold allO; rw [List.range_succ, List.flatMap_append]; simp

theorem allO_at {l : List tRewrite} {i j : Nat} {u v : List (List (List Int))} {x : List (List Int)} (hi : i < l.length) (hj : j < l.length) (hx : rowO l i j = u ++ x :: v) : ∃ s, allO l l.length = (allO l i ++ rowsO l i j ++ u) ++ x :: s := by
  obtain ⟨s1, h1⟩ := rng_split (fun i => rowsO l i l.length) hi
  obtain ⟨s2, h2⟩ := rng_split (rowO l i) hj
  refine ⟨v ++ s2 ++ s1, ?_⟩
  show (List.range l.length).flatMap (fun i => rowsO l i l.length) = _
  rw [h1, show rowsO l i l.length = (List.range j).flatMap (rowO l i) ++ (rowO l i j ++ s2) from h2, hx]
  unfold allO rowsO
  simp

theorem goodO_bad {l : List tRewrite} {i j : Nat} {u v : List (List (List Int))} {x : List (List Int)} (hi : i < l.length) (hj : j < l.length) (hx : rowO l i j = u ++ x :: v) (h : okW x = false ∨ (allO l i ++ rowsO l i j ++ u).length = 300) : goodO (allO l l.length) = false := by
  obtain ⟨s, hs⟩ := allO_at hi hj hx
  unfold goodO
  rw [hs]
  rcases h with h | h
  · simp [h]
  · have : ¬ ((allO l i ++ rowsO l i j ++ u) ++ x :: s).length ≤ 300 := by rw [List.length_append, h, List.length_cons]; omega
    rw [decide_eq_false this]; simp

theorem take_snoc {α : Type} {xs : List α} {m : Nat} {x : α} (h : xs[m]? = some x) : xs.take (m + 1) = xs.take m ++ [x] := by
  have h1 := List.getElem?_eq_some_iff.1 h
  rw [List.take_succ_eq_append_getElem h1.1, h1.2]

theorem cut_at {α : Type} {xs : List α} {m : Nat} {x : α} (h : xs[m]? = some x) : xs = xs.take m ++ x :: xs.drop (m + 1) := by
  have h1 := List.getElem?_eq_some_iff.1 h
  rw [← h1.2, ← List.drop_eq_getElem_cons h1.1, List.take_append_drop]

theorem goodO_snoc {xs : List (List (List Int))} {x : List (List Int)} (h : goodO xs = true) (hx : okW x = true) (hl : xs.length ≠ 300) : goodO (xs ++ [x]) = true := by
  unfold goodO at *
  simp only [Bool.and_eq_true, decide_eq_true_eq] at *
  rw [List.all_append, List.length_append, h.1]
  simp [hx]; omega

theorem goodO_len {xs : List (List (List Int))} (h : goodO xs = true) : xs.length ≤ 300 := by
  unfold goodO at h
  simp only [Bool.and_eq_true, decide_eq_true_eq] at h
  exact h.2

theorem goodO_all {xs : List (List (List Int))} (h : goodO xs = true) : ∀ x ∈ xs, okW x = true := by
  unfold goodO at h
  simp only [Bool.and_eq_true, List.all_eq_true] at h
  exact h.1

theorem okW_len {x : List (List Int)} (h : okW x = true) : ∀ y ∈ x, y.length ≤ 400 := by
  intro y hy
  unfold okW at h
  simp only [Bool.not_eq_true', List.any_eq_false] at h
  have := h y hy
  unfold notWord isWord at this
  simp at this
  exact this.1

theorem rowO_three {l : List tRewrite} {i j : Nat} : ∀ x ∈ rowO l i j, x.length = 3 := by
  have key : ∀ (a b : tRewrite) (s : Bool) (n : Nat), ∀ x ∈ ovl a b s n, x.length = 3 := by
    intro a b s n
    induction n with
    | zero => intro x hx; simp [ovl] at hx
    | succ n ih =>
      intro x hx
      rw [ovl, List.mem_append] at hx
      rcases hx with hx | hx
      · split at hx
        · rw [List.mem_singleton.1 hx]; rfl
        · simp at hx
      · exact ih x hx
  exact fun x hx => key _ _ _ _ x hx

theorem overlapsOf_ct (l : List tRewrite) : (ct_LLL (overlapsOf l).1 : Int) ≤ 1000000000 := by
  unfold overlapsOf
  split
  · split
    · rename_i h
      have h1 : ct_LLL (allO l l.length) ≤ 1200 * (allO l l.length).length := cntL_bound fun x hx => by
        have h3 : x.length = 3 := by
          unfold allO rowsO at hx
          simp only [List.mem_flatMap] at hx
          obtain ⟨i, _, j, _, hx⟩ := hx
          exact rowO_three x hx
        have h4 : ct_LL x ≤ 400 * x.length := cntL_bound fun y hy => by
          rw [ct_L_len]; exact okW_len (goodO_all h x hx) y hy
        omega
      have h2 := goodO_len h
      show (ct_LLL (allO l l.length) : Int) ≤ _
      omega
    · exact (by decide : (ct_LLL [] : Int) ≤ 1000000000)
  · exact (by decide : (ct_LLL [] : Int) ≤ 1000000000)

set_option maxRecDepth 100000 in
set_option maxHeartbeats 4000000 in
theorem impl_OverlapsOf (A0 : Option Addr) (c0 : Nat) (a0 : (List tRewrite)) (w : World) (h0 : Sl eRewrite w (Old w) A0 c0 a0) :
    Calls Try.prog 10 #[.slice A0 a0.length c0] w fun e w' => ∃ (A0' : Option Addr) (c0' : Nat) (S0' : Nat → Prop), e = .returned (.tuple #[.slice A0' (overlapsOf a0).1.length c0', .int .i64 (overlapsOf a0).2]) ∧ Held Nob w [rVec (eSl (eSl eInt)) 50 S0' A0' c0' (overlapsOf a0).1] w' := by
  have l0 := h0.len
  have HH1 := Held.start Nob w
  refine enter (n := 56) Try.func10 rfl rfl rfl fun a_2 HE3 => ?_
  refine wp_seq ?_
  refine rg ?_
  refine pl_x HE3 HH1 (wt0 rfl) (x_assign rfl) rfl rfl fun a_4 HE5 => ?_
  refine pl_x HE5 HH1 (wt0 rfl) (x_assign rfl) rfl rfl fun a_6 HE7 => ?_
  refine wpList_nil ?_
  clear a_2 HE3 a_4 HE5
  refine nrm ?_
  refine wp_seq ?_
  refine wp_seq ?_
  refine rg ?_
  refine pl_x HE7 HH1 (wt0 rfl) (x_move rfl) rfl rfl fun a_8 HE9 => ?_
  refine pl fun K_10 hK11 => ?_
  refine st_call HE9 (wt0 rfl) rfl rfl rfl en_44 rfl rfl (impl_ValidRewrites _ _ a0 _ (HH1.old h0)) fun e w' hr => ?_
  obtain ⟨rfl, hbr21⟩ := hr
  have HH12 := HH1.on hbr21
  refine ⟨_, rfl, fun a_13 HE14 => hK11 _ _ ?_⟩
  refine pl_x HE14 HH12 (wt0 rfl) (x_not rfl) rfl rfl fun a_15 HE16 => ?_
  refine wpList_nil ?_
  clear a_6 HE7 HH1 a_8 HE9 a_13 HE14 hK11 K_10
  refine nrm ?_
  refine cnd_nb HE16 rfl (fun hc22 => ?_) (fun hc22 => ?_)
  · refine wp_seq ?_
    refine rg ?_
    refine pl_x HE16 HH12 (wt0 rfl) (x_assign rfl) rfl rfl fun a_17 HE18 => ?_
    refine pl_x HE18 HH12 (wt0 rfl) (x_assign rfl) rfl rfl fun a_19 HE20 => ?_
    refine wpList_nil ?_
    clear a_15 HE16 a_17 HE18
    refine nrm ?_
    refine wp_ret ?_
    refine (thn_ret ?_)
    refine ret2 HE20 rfl (rv_tmp rfl) (rv_tmp rfl) ?_
    have HH21 := HH12.vecNil (eSl (eSl eInt)) 50
    have hF : (overlapsOf a0) = ([], 1) := by
      first | (unfold overlapsOf; rw [if_pos hvr, show a0.length = i from by omega, if_pos p0_1]) | (unfold overlapsOf; rw [if_pos hvr, goodO_bad (i := i) (j := j) (by omega) (by omega) (cut_at hzx) (.inl (by assumption))]; rfl) | (unfold overlapsOf; rw [if_pos hvr, goodO_bad (i := i) (j := j) (by omega) (by omega) (cut_at hzx) (.inr (by omega))]; rfl) | (simp [overlapsOf, hc22]; done)
    exact ⟨_, _, _, by first | (rw [hF] <;> rfl) | rfl | (rw [hF]; simp only [Ending.returned.injEq, Value.slice.injEq, true_and, and_true]; first | omega | (simp; done)) | (rw [hF]; simp; omega), by rw [hF]; exact HH21.sel [0] (by decide) rfl⟩
  · have hvr := hc22
    refine wp_skip ?_
    refine nrm ?_
    refine wp_seq ?_
    refine rg ?_
    refine pl fun K_22 hK23 => ?_
    refine st_lit (m := 0) (cs := []) (e := 50) HE16 HH12 (run_lit ts_24 HE16 (vs := []) rfl rfl (by simp [Value.cells]) rfl (by decide)) (wt0 rfl) rfl rfl fun q23 a_24 w' HE25 HH26 => hK23 _ _ ?_
    refine pl_x HE25 HH26 (wt0 rfl) (x_assign rfl) rfl rfl fun a_27 HE28 => ?_
    refine wpList_nil ?_
    clear a_15 HE16 HH12 a_24 HE25 hK23 K_22
    refine nrm ?_
    refine wp_seq ?_
    refine wp_seq ?_
    refine rg ?_
    refine pl_x HE28 HH26 (wt0 rfl) (x_move rfl) rfl rfl fun a_29 HE30 => ?_
    refine pl_x HE30 HH26 (wt0 rfl) (x_len Try.underlying27 rfl) rfl rfl fun a_31 HE32 => ?_
    refine pl_x HE32 HH26 (wt0 rfl) (x_move rfl) rfl rfl fun a_33 HE34 => ?_
    refine wpList_nil ?_
    clear a_27 HE28 a_29 HE30 a_31 HE32
    refine nrm ?_
    refine wp_block ?_
    have HH35 := Held.vecFlat (E := (eSl (eSl eInt))) (xs := []) (css := []) HH26 rfl (Nat.zero_le _) (fun i x hx => by simp at hx)
    refine lp (fun m a w' => ∃ (i : Nat) (A_4 : Option Addr) (c_4 : Nat) (S_4 : Nat → Prop), m = a0.length - i ∧ Env 56 [(4, .slice A_4 (List.length (allO a0 i)) c_4), (17, .int .i64 (i : Int)), (0, .slice A0 (a0.length) c0), (15, .slice A0 (a0.length) c0), (16, .int .i64 ((a0.length : Int)))] a ∧ Held Nob w [rVec (eSl (eSl eInt)) 50 S_4 A_4 c_4 (allO a0 i)] w' ∧ (i ≤ a0.length) ∧ (goodO (allO a0 i) = true)) (a0.length - (0)) ?_ ?_
    · have E24 : allO a0 0 = ([] : List (List (List Int))) := by
        rfl
      exact ⟨0, (some ⟨q23, 0, none⟩), (List.length (α := (List (List Int))) []), (fun b => b = q23), rfl, HE34.sub ⟨(by rw [E24]; rfl), (lkI rfl (by first | rfl | omega | (simp [hc22]; done))), rfl, rfl, rfl, trivial⟩, ((HH35.sel [0] (by decide) rfl).to (by first | rfl | (rw [E24]; done) | (rw [E24]; rfl) | (simp only [E24]; done) | (simp only [E24]; rfl) | (rw [E24]; simp only [List.length_set]; done))), (by first | omega | assumption | (simp; done) | simp_all), (by rfl)⟩
    · rintro m a_36 w' ⟨i, A_4, c_4, S_4, rfl, HE37, HH38, p25_0, p25_1⟩
      refine wp_seq ?_
      refine rg ?_
      refine pl_x HE37 HH38 (wt0 rfl) (x_lss rfl rfl) rfl rfl fun a_39 HE40 => ?_
      refine wpList_nil ?_
      clear HH26 a_33 HE34 HH35 a_36 HE37
      refine nrm ?_
      refine wp_seq ?_
      refine cnd_d HE40 rfl (fun hc26 => ?_) (fun hc26 => ?_)
      · refine wp_skip ?_
        refine nrm ?_
        refine wp_seq ?_
        refine wp_block ?_
        refine wp_seq ?_
        refine rg ?_
        refine pl_x HE40 HH38 (wt0 rfl) (x_move rfl) rfl rfl fun a_41 HE42 => ?_
        have ke27 : i < a0.length := by omega
        obtain ⟨be27, fe27, ese27, Ae27, Re27, De27⟩ := el_old h0 ke27
        obtain ⟨e27, xe27⟩ : ∃ x_, x_ = a0[i] := ⟨_, rfl⟩
        rw [← xe27] at Re27
        have Qe27 := Re27
        obtain ⟨Ae27_0, ce27_0, Ae27_1, ce27_1, rfl, ge27_0, ge27_1⟩ := shape_Rewrite Re27
        have le27_0 := ge27_0.len
        have le27_1 := ge27_1.len
        have ge27 : a0[i]?.getD default = e27 := by rw [List.getElem?_eq_getElem ke27, xe27]; rfl
        have vre27 := validRew_len2 hvr e27 (by rw [xe27]; exact List.getElem_mem _)
        refine pl_x HE42 HH38 (wt0 rfl) (x_indexAddr ts_27 rfl rfl Ae27 rfl ke27) rfl rfl fun a_43 HE44 => ?_
        refine pl_x HE44 HH38 (wt0 rfl) (x_loadN (cs := [.slice Ae27_0 (e27.1.length) ce27_0, .slice Ae27_1 (e27.2.length) ce27_1]) tv_70 rfl rfl (c_oldN De27)) rfl rfl fun a_45 HE46 => ?_
        refine pl fun K_47 hK48 => ?_
        refine st_alloc HE46 HH38 tv_70 (wt0 rfl) rfl fun q28 a_49 w' HE50 HH51 => hK48 _ _ ?_
        refine pl_x HE50 HH51 (wt0 rfl) (x_assign rfl) rfl rfl fun a_52 HE53 => ?_
        refine pl fun K_54 hK55 => ?_
        refine st_store (vs := [.slice Ae27_0 (e27.1.length) ce27_0, .slice Ae27_1 (e27.2.length) ce27_1]) 0 HE53 HH51 tv_70 rfl rfl rfl rfl rfl rfl (by simp [Value.oneCell']) (wt0 rfl) fun w' HH56 => hK55 _ _ ?_
        refine wpList_nil ?_
        clear a_39 HE40 a_41 HE42 a_43 HE44 a_45 HE46 HH38 a_49 HE50 K_47 hK48 HH51 hK55 K_54
        refine nrm ?_
        refine wp_seq ?_
        refine rg ?_
        refine pl_x HE53 HH56 (wt0 rfl) (x_move rfl) rfl rfl fun a_57 HE58 => ?_
        refine pl_x HE58 HH56 (wt0 rfl) (x_len Try.underlying27 rfl) rfl rfl fun a_59 HE60 => ?_
        refine pl_x HE60 HH56 (wt0 rfl) (x_move rfl) rfl rfl fun a_61 HE62 => ?_
        refine wpList_nil ?_
        clear a_52 HE53 a_57 HE58 a_59 HE60
        refine nrm ?_
        refine wp_block ?_
        refine lp (fun m a w' => ∃ (j : Nat) (A_4 : Option Addr) (c_4 : Nat) (S_4 : Nat → Prop), m = a0.length - j ∧ Env 56 [(4, .slice A_4 (List.length (allO a0 i ++ rowsO a0 i j)) c_4), (24, .int .i64 (j : Int)), (0, .slice A0 (a0.length) c0), (5, .int .i64 ((i : Int))), (6, .pointer (some ⟨q28, 0, none⟩)), (15, .slice A0 (a0.length) c0), (16, .int .i64 ((a0.length : Int))), (17, .int .i64 ((i : Int))), (22, .slice A0 (a0.length) c0), (23, .int .i64 ((a0.length : Int)))] a ∧ Held Nob w [rVec (eSl (eSl eInt)) 50 S_4 A_4 c_4 (allO a0 i ++ rowsO a0 i j), rBlk q28 70 [.slice Ae27_0 (e27.1.length) ce27_0, .slice Ae27_1 (e27.2.length) ce27_1]] w' ∧ (j ≤ a0.length) ∧ (goodO (allO a0 i ++ rowsO a0 i j) = true)) (a0.length - (0)) ?_ ?_
        · have E29 : (allO a0 i ++ rowsO a0 i 0) = allO a0 i := by
            simp [rowsO]
          exact ⟨0, A_4, c_4, S_4, rfl, HE62.sub ⟨(by rw [E29]; rfl), (lkI rfl (by first | rfl | omega | (simp [hc22, p25_0, p25_1, hc26, xe27]; done))), rfl, rfl, rfl, rfl, rfl, rfl, rfl, rfl, trivial⟩, ((HH56.sel [1, 0] (by decide) rfl).to (by first | rfl | (rw [E29]; done) | (rw [E29]; rfl) | (simp only [E29]; done) | (simp only [E29]; rfl) | (rw [E29]; simp only [List.length_set]; done))), (by first | omega | assumption | (simp; done) | simp_all), (by simpa [rowsO])⟩
        · rintro m a_63 w' ⟨j, A_4, c_4, S_4, rfl, HE64, HH65, p30_0, p30_1⟩
          refine wp_seq ?_
          refine rg ?_
          refine pl_x HE64 HH65 (wt0 rfl) (x_lss rfl rfl) rfl rfl fun a_66 HE67 => ?_
          refine wpList_nil ?_
          clear a_61 HE62 HH56 a_63 HE64
          refine nrm ?_
          refine wp_seq ?_
          refine cnd_d HE67 rfl (fun hc31 => ?_) (fun hc31 => ?_)
          · refine wp_skip ?_
            refine nrm ?_
            refine wp_seq ?_
            refine wp_block ?_
            refine wp_seq ?_
            refine rg ?_
            refine pl_x HE67 HH65 (wt0 rfl) (x_move rfl) rfl rfl fun a_68 HE69 => ?_
            have ke32 : j < a0.length := by omega
            obtain ⟨be32, fe32, ese32, Ae32, Re32, De32⟩ := el_old h0 ke32
            obtain ⟨e32, xe32⟩ : ∃ x_, x_ = a0[j] := ⟨_, rfl⟩
            rw [← xe32] at Re32
            have Qe32 := Re32
            obtain ⟨Ae32_0, ce32_0, Ae32_1, ce32_1, rfl, ge32_0, ge32_1⟩ := shape_Rewrite Re32
            have le32_0 := ge32_0.len
            have le32_1 := ge32_1.len
            have ge32 : a0[j]?.getD default = e32 := by rw [List.getElem?_eq_getElem ke32, xe32]; rfl
            have vre32 := validRew_len2 hvr e32 (by rw [xe32]; exact List.getElem_mem _)
            refine pl_x HE69 HH65 (wt0 rfl) (x_indexAddr ts_27 rfl rfl Ae32 rfl ke32) rfl rfl fun a_70 HE71 => ?_
            refine pl_x HE71 HH65 (wt0 rfl) (x_loadN (cs := [.slice Ae32_0 (e32.1.length) ce32_0, .slice Ae32_1 (e32.2.length) ce32_1]) tv_70 rfl rfl (c_oldN De32)) rfl rfl fun a_72 HE73 => ?_
            refine pl fun K_74 hK75 => ?_
            refine st_alloc HE73 HH65 tv_70 (wt0 rfl) rfl fun q33 a_76 w' HE77 HH78 => hK75 _ _ ?_
            refine pl_x HE77 HH78 (wt0 rfl) (x_assign rfl) rfl rfl fun a_79 HE80 => ?_
            refine pl fun K_81 hK82 => ?_
            refine st_store (vs := [.slice Ae32_0 (e32.1.length) ce32_0, .slice Ae32_1 (e32.2.length) ce32_1]) 0 HE80 HH78 tv_70 rfl rfl rfl rfl rfl rfl (by simp [Value.oneCell']) (wt0 rfl) fun w' HH83 => hK82 _ _ ?_
            refine wpList_nil ?_
            clear a_66 HE67 a_68 HE69 a_70 HE71 a_72 HE73 HH65 a_76 HE77 K_74 hK75 HH78 hK82 K_81
            refine nrm ?_
            refine wp_seq ?_
            refine rg ?_
            refine pl_x HE80 HH83 (wt0 rfl) (x_loadN (cs := [.slice Ae27_0 (e27.1.length) ce27_0, .slice Ae27_1 (e27.2.length) ce27_1]) tv_70 rfl rfl (c_blkN 2 rfl)) rfl rfl fun a_84 HE85 => ?_
            refine pl_x HE85 HH83 (wt0 rfl) (x_loadN (cs := [.slice Ae32_0 (e32.1.length) ce32_0, .slice Ae32_1 (e32.2.length) ce32_1]) tv_70 rfl rfl (c_blkN 0 rfl)) rfl rfl fun a_86 HE87 => ?_
            refine pl_x HE87 HH83 (wt0 rfl) (x_move rfl) rfl rfl fun a_88 HE89 => ?_
            refine pl_x HE89 HH83 (wt0 rfl) (x_move rfl) rfl rfl fun a_90 HE91 => ?_
            refine pl_x HE91 HH83 (wt0 rfl) (x_eql rfl rfl) rfl rfl fun a_92 HE93 => ?_
            refine pl fun K_94 hK95 => ?_
            refine st_call HE93 (wt0 rfl) rfl rfl rfl en_45 rfl rfl (impl_overlaps [.slice Ae27_0 (e27.1.length) ce27_0, .slice Ae27_1 (e27.2.length) ce27_1] e27 [.slice Ae32_0 (e32.1.length) ce32_0, .slice Ae32_1 (e32.2.length) ce32_1] e32 ((i : Int) == (j : Int)) _ (HH83.oldR Qe27) (HH83.oldR Qe32) (by omega) (by omega)) fun e w' hr => ?_
            obtain ⟨Ar34_0, cr34_0, Sr34_0, rfl, hbr34⟩ := hr
            have HH96 := HH83.app hbr34
            clear hbr34
            have HH97 : Held Nob w ([rVec (eSl (eSl eInt)) 50 Sr34_0 Ar34_0 cr34_0 (ovlF e27 e32 ((i : Int) == (j : Int))), rBlk q33 70 [.slice Ae32_0 (e32.1.length) ce32_0, .slice Ae32_1 (e32.2.length) ce32_1], rVec (eSl (eSl eInt)) 50 S_4 A_4 c_4 (allO a0 i ++ rowsO a0 i j), rBlk q28 70 [.slice Ae27_0 (e27.1.length) ce27_0, .slice Ae27_1 (e27.2.length) ce27_1]]) _ := HH96
            refine ⟨_, rfl, fun a_98 HE99 => hK95 _ _ ?_⟩
            refine pl_x HE99 HH97 (wt0 rfl) (x_len Try.underlying24 rfl) rfl rfl fun a_100 HE101 => ?_
            refine pl_x HE101 HH97 (wt0 rfl) (x_move rfl) rfl rfl fun a_102 HE103 => ?_
            refine wpList_nil ?_
            clear a_79 HE80 a_84 HE85 a_86 HE87 a_88 HE89 a_90 HE91 HH83 HH96 a_92 HE93 a_98 HE99 a_100 HE101 hK95 K_94
            refine nrm ?_
            refine wp_block ?_
            obtain ⟨css, Sx, Sy, hcl, HH104⟩ := HH97.explode one_LL
            have HE105 := HE103.castS (t := 34) (m' := List.length css) rfl hcl.symm
            have hro : rowO a0 i j = (ovlF e27 e32 ((i : Int) == (j : Int))) := by unfold rowO; rw [ge27, ge32]
            have hrl : (rowO a0 i j).length = List.length (ovlF e27 e32 ((i : Int) == (j : Int))) := by rw [hro]
            have hrz : List.length (ovlF e27 e32 ((i : Int) == (j : Int))) ≤ 400 := ovlF_len (by omega)
            refine lp (fun m a w' => ∃ (v : Nat) (A_4 : Option Addr) (c_4 : Nat) (S_4 : Nat → Prop) (S_els : Nat → Prop), m = (rowO a0 i j).length - v ∧ Env 56 [(4, .slice A_4 (List.length (allO a0 i ++ rowsO a0 i j ++ (rowO a0 i j).take v)) c_4), (36, .int .i64 (v : Int)), (0, .slice A0 (a0.length) c0), (5, .int .i64 ((i : Int))), (6, .pointer (some ⟨q28, 0, none⟩)), (15, .slice A0 (a0.length) c0), (16, .int .i64 ((a0.length : Int))), (17, .int .i64 ((i : Int))), (22, .slice A0 (a0.length) c0), (23, .int .i64 ((a0.length : Int))), (24, .int .i64 ((j : Int))), (34, .slice Ar34_0 ((List.length css)) cr34_0), (35, .int .i64 (((ovlF e27 e32 ((i : Int) == (j : Int))).length : Int)))] a ∧ Held Nob w [rVec (eSl (eSl eInt)) 50 S_4 A_4 c_4 (allO a0 i ++ rowsO a0 i j ++ (rowO a0 i j).take v), rEls (eSl (eSl eInt)) S_els ((css.zip (ovlF e27 e32 ((i : Int) == (j : Int)))).drop v), rVec (eRaw (eSl (eSl eInt)).size (eSl (eSl eInt)).pos) 50 Sx Ar34_0 cr34_0 css, rBlk q33 70 [.slice Ae32_0 (e32.1.length) ce32_0, .slice Ae32_1 (e32.2.length) ce32_1], rBlk q28 70 [.slice Ae27_0 (e27.1.length) ce27_0, .slice Ae27_1 (e27.2.length) ce27_1]] w' ∧ (v ≤ (rowO a0 i j).length) ∧ (goodO (allO a0 i ++ rowsO a0 i j ++ (rowO a0 i j).take v) = true)) ((rowO a0 i j).length - (0)) ?_ ?_
            · have E35 : (allO a0 i ++ rowsO a0 i j ++ (rowO a0 i j).take 0) = (allO a0 i ++ rowsO a0 i j) := by
                simp
              have E36 : ((css.zip (ovlF e27 e32 ((i : Int) == (j : Int)))).drop 0) = (css.zip (ovlF e27 e32 ((i : Int) == (j : Int)))) := by rfl
              exact ⟨0, A_4, c_4, S_4, Sy, rfl, HE105.sub ⟨(by rw [E35]; rfl), (lkI rfl (by first | rfl | omega | (simp [hc22, p25_0, p25_1, hc26, xe27, p30_0, p30_1, hc31, xe32]; done))), rfl, rfl, rfl, rfl, rfl, rfl, rfl, rfl, rfl, rfl, rfl, trivial⟩, ((HH104.sel [3, 1, 0, 2, 4] (by decide) rfl).to (by first | rfl | (rw [E35, E36]; done) | (rw [E35, E36]; rfl) | (simp only [E35, E36]; done) | (simp only [E35, E36]; rfl) | (rw [E35, E36]; simp only [List.length_set]; done))), (by first | omega | assumption | (simp; done) | simp_all), (by simpa)⟩
            · rintro m a_106 w' ⟨v, A_4, c_4, S_4, S_els, rfl, HE107, HH108, p37_0, p37_1⟩
              have hgl := goodO_len p37_1
              refine wp_seq ?_
              refine rg ?_
              refine pl_x HE107 HH108 (wt0 rfl) (x_lss rfl rfl) rfl rfl fun a_109 HE110 => ?_
              refine wpList_nil ?_
              clear HH97 HE103 a_102 HE105 HH104 a_106 HE107
              refine nrm ?_
              refine wp_seq ?_
              refine cnd_d HE110 rfl (fun hc38 => ?_) (fun hc38 => ?_)
              · refine wp_skip ?_
                refine nrm ?_
                refine wp_seq ?_
                refine wp_block ?_
                refine wp_seq ?_
                refine rg ?_
                have ke39 : v < (List.length css) := by omega
                obtain ⟨be39, rfl⟩ := HH108.rawAt (i := 2) rfl ke39
                refine pl_x HE110 HH108 (wt0 rfl) (x_indexAddr ts_24 rfl rfl rfl rfl ke39) rfl rfl fun a_111 HE112 => ?_
                have kex41 : v < List.length (ovlF e27 e32 ((i : Int) == (j : Int))) := by omega
                obtain ⟨es40, xes40⟩ : ∃ es_, css[v]? = some es_ := ⟨_, List.getElem?_eq_getElem ke39⟩
                obtain ⟨ex41, xex41⟩ : ∃ x_, x_ = (ovlF e27 e32 ((i : Int) == (j : Int)))[v] := ⟨_, rfl⟩
                have HH113 := HH108.sel [1, 0, 2, 3, 4] (by decide) rfl
                have HH114 := HH113.elsTo (zip_drop_at xes40 xex41)
                obtain ⟨S44, S45, HH115⟩ := HH114.peel
                obtain ⟨A42, c43, rfl⟩ := HH115.oSlice (es := es40) (x := ex41) (i := 0) rfl
                have HH116 : Held Nob w [rSo (eSl eInt) S44 A42 c43 ex41, rEls (eSl (eSl eInt)) S45 ((css.zip (ovlF e27 e32 ((i : Int) == (j : Int)))).drop (v + 1)), rVec (eSl (eSl eInt)) 50 S_4 A_4 c_4 (allO a0 i ++ rowsO a0 i j ++ (rowO a0 i j).take v), rVec (eRaw (eSl (eSl eInt)).size (eSl (eSl eInt)).pos) 50 Sx (some ⟨be39, 0, none⟩) cr34_0 css, rBlk q33 70 [.slice Ae32_0 (e32.1.length) ce32_0, .slice Ae32_1 (e32.2.length) ce32_1], rBlk q28 70 [.slice Ae27_0 (e27.1.length) ce27_0, .slice Ae27_1 (e27.2.length) ce27_1]] _ := HH115
                have hzx : (rowO a0 i j)[v]? = some ex41 := by rw [hro, List.getElem?_eq_getElem kex41, xex41]
                refine pl_x HE112 HH116 (wt0 rfl) (x_load1 tv_50 rfl (fun w h => c_rawN 3 rfl rfl xes40 w h 0 _ rfl)) rfl rfl fun a_117 HE118 => ?_
                refine pl_x HE118 HH116 (wt0 rfl) (x_assign rfl) rfl rfl fun a_119 HE120 => ?_
                refine wpList_nil ?_
                clear a_109 HE110 HH108 HH113 HH114 HH115 a_111 HE112 a_117 HE118
                refine nrm ?_
                refine wp_seq ?_
                refine wp_seq ?_
                refine rg ?_
                refine pl_x HE120 HH116 (wt0 rfl) (x_move rfl) rfl rfl fun a_121 HE122 => ?_
                refine pl fun K_123 hK124 => ?_
                refine st_call HE122 (wt0 rfl) rfl rfl rfl en_46 rfl rfl (impl_areWords _ _ ex41 _ (HH116.sl (i := 0) rfl)) fun e w' hr => ?_
                obtain ⟨rfl, hbr46⟩ := hr
                have HH125 := HH116.on hbr46
                refine ⟨_, rfl, fun a_126 HE127 => hK124 _ _ ?_⟩
                refine pl_x HE127 HH125 (wt0 rfl) (x_not rfl) rfl rfl fun a_128 HE129 => ?_
                refine pl_x HE129 HH125 (wt0 rfl) (x_move rfl) rfl rfl fun a_130 HE131 => ?_
                rcases Bool.eq_false_or_eq_true ((okW ex41)) with hc47 | hc47
                · refine pl_x HE131 HH125 (wtT HE131 rfl rfl rfl (not_f hc47)) (x_move rfl) rfl rfl fun a_132 HE133 => ?_
                  refine pl_x HE133 HH125 (wtT HE133 rfl rfl rfl (not_f hc47)) (x_len Try.underlying24 rfl) rfl rfl fun a_134 HE135 => ?_
                  refine pl_x HE135 HH125 (wtT HE135 rfl rfl rfl (not_f hc47)) (x_eql rfl rfl) rfl rfl fun a_136 HE137 => ?_
                  refine pl_x HE137 HH125 (wt0 rfl) (x_pickF rfl (not_f hc47) rfl) rfl rfl fun a_138 HE139 => ?_
                  refine wpList_nil ?_
                  clear a_119 HE120 HH116 a_121 HE122 a_126 HE127 a_128 HE129 a_130 HE131 a_132 HE133 a_134 HE135 a_136 HE137 hK124 K_123
                  refine nrm ?_
                  refine cnd_e HE139 rfl (fun hc48 => ?_) (fun hc48 => ?_)
                  · refine wp_seq ?_
                    refine rg ?_
                    refine pl_x HE139 HH125 (wt0 rfl) (x_assign rfl) rfl rfl fun a_140 HE141 => ?_
                    refine pl_x HE141 HH125 (wt0 rfl) (x_assign rfl) rfl rfl fun a_142 HE143 => ?_
                    refine wpList_nil ?_
                    clear a_138 HE139 a_140 HE141
                    refine nrm ?_
                    refine wp_ret ?_
                    refine (thn_ret (blk_ret (thn_ret (thn_ret (blk_ret (blk_ret (thn_ret (thn_ret (blk_ret (blk_ret (thn_ret (thn_ret (blk_ret (thn_ret ?_))))))))))))))
                    refine ret2 HE143 rfl (rv_tmp rfl) (rv_tmp rfl) ?_
                    have HH144 := HH125.vecNil (eSl (eSl eInt)) 50
                    have hF : (overlapsOf a0) = ([], 5) := by
                      first | (unfold overlapsOf; rw [if_pos hvr, show a0.length = i from by omega, if_pos p37_1]) | (unfold overlapsOf; rw [if_pos hvr, goodO_bad (i := i) (j := j) (by omega) (by omega) (cut_at hzx) (.inl (by assumption))]; rfl) | (unfold overlapsOf; rw [if_pos hvr, goodO_bad (i := i) (j := j) (by omega) (by omega) (cut_at hzx) (.inr (by omega))]; rfl) | (simp [overlapsOf, hc22, p25_0, p25_1, hc26, xe27, p30_0, p30_1, hc31, xe32, p37_0, p37_1, hc38, xex41, hc47, hc48]; done)
                    exact ⟨_, _, _, by first | (rw [hF] <;> rfl) | rfl | (rw [hF]; simp only [Ending.returned.injEq, Value.slice.injEq, true_and, and_true]; first | omega | (simp; done)) | (rw [hF]; simp; omega), by rw [hF]; exact HH144.sel [0] (by decide) rfl⟩
                  · refine wp_skip ?_
                    refine nrm ?_
                    refine rg ?_
                    refine pl_x HE139 HH125 (wt0 rfl) (x_move rfl) rfl rfl fun a_145 HE146 => ?_
                    refine pl_x HE146 HH125 (wt0 rfl) (x_move rfl) rfl rfl fun a_147 HE148 => ?_
                    refine pl fun K_149 hK150 => ?_
                    refine st_lit (m := 1) (cs := [.slice A42 (ex41.length) c43]) (e := 50) HE148 HH125 (run_lit ts_24 HE148 (vs := [.slice A42 (ex41.length) c43]) rfl rfl (by simp [Value.cells]) rfl (by decide)) (wt0 rfl) rfl rfl fun q49 a_151 w' HE152 HH153 => hK150 _ _ ?_
                    refine pl fun K_154 hK155 => ?_
                    refine st_app1 HE152 HH153 ts_24 [3, 1, 0, 2, 4, 5, 6] (by decide) rfl rfl rfl (by simp [Value.oneCell']) (by unfold maxLen; first | omega | (simp; done) | (simp; omega)) (by first | omega | (simp; done) | (simp; omega)) (wt0 rfl) rfl fun A50 c51 S52 a_156 w' HE157 HH158 => hK155 _ _ ?_
                    refine pl_x HE157 HH158 (wt0 rfl) (x_assign rfl) rfl rfl fun a_159 HE160 => ?_
                    refine wpList_nil ?_
                    clear a_138 HE139 a_145 HE146 a_147 HE148 HH125 K_149 hK150 a_151 HE152 HH153 a_156 HE157 hK155 K_154
                    refine blk_n ?_
                    refine nrm ?_
                    refine rg ?_
                    refine pl_x HE160 HH158 (wt0 rfl) (x_add rfl rfl (by exact ⟨by omega, by omega⟩)) rfl rfl fun a_161 HE162 => ?_
                    refine pl_x HE162 HH158 (wt0 rfl) (x_move rfl) rfl rfl fun a_163 HE164 => ?_
                    refine wpList_nil ?_
                    clear a_159 HE160 a_161 HE162
                    have E53 : (allO a0 i ++ rowsO a0 i j ++ (rowO a0 i j).take (v + 1)) = ((allO a0 i ++ rowsO a0 i j ++ (rowO a0 i j).take v) ++ [ex41]) := by
                      rw [take_snoc hzx, ← List.append_assoc]
                    exact nrm ⟨(rowO a0 i j).length - (v + 1), (by omega), v + 1, A50, c51, S52, S45, rfl, HE164.sub ⟨(by rw [E53]; rfl), (lkI rfl (by first | rfl | omega | (simp [hc22, p25_0, p25_1, hc26, xe27, p30_0, p30_1, hc31, xe32, p37_0, p37_1, hc38, xex41, hc47, hc48]; done))), rfl, rfl, rfl, rfl, rfl, rfl, rfl, rfl, rfl, rfl, rfl, trivial⟩, ((HH158.sel [0, 2, 3, 4, 5] (by decide) rfl).to (by first | rfl | (rw [E53]; done) | (rw [E53]; rfl) | (simp only [E53]; done) | (simp only [E53]; rfl) | (rw [E53]; simp only [List.length_set]; done))), (by first | omega | assumption | (simp; done) | simp_all), (by rw [take_snoc hzx, ← List.append_assoc]; exact goodO_snoc p37_1 (by assumption) (by omega))⟩
                · refine pl_no HE131 (wtF HE131 rfl rfl rfl (not_t hc47)) rfl rfl fun a_165 HE166 => ?_
                  refine pl_no HE166 (wtF HE166 rfl rfl rfl (not_t hc47)) rfl rfl fun a_167 HE168 => ?_
                  refine pl_no HE168 (wtF HE168 rfl rfl rfl (not_t hc47)) rfl rfl fun a_169 HE170 => ?_
                  refine pl_x HE170 HH125 (wt0 rfl) (x_pickT rfl (not_t hc47) rfl) rfl rfl fun a_171 HE172 => ?_
                  refine wpList_nil ?_
                  clear a_119 HE120 HH116 a_121 HE122 a_126 HE127 a_128 HE129 a_130 HE131 a_165 HE166 a_167 HE168 a_169 HE170 hK124 K_123
                  refine nrm ?_
                  refine cndT HE172 rfl rfl ?_
                  refine wp_seq ?_
                  refine rg ?_
                  refine pl_x HE172 HH125 (wt0 rfl) (x_assign rfl) rfl rfl fun a_173 HE174 => ?_
                  refine pl_x HE174 HH125 (wt0 rfl) (x_assign rfl) rfl rfl fun a_175 HE176 => ?_
                  refine wpList_nil ?_
                  clear a_171 HE172 a_173 HE174
                  refine nrm ?_
                  refine wp_ret ?_
                  refine (thn_ret (blk_ret (thn_ret (thn_ret (blk_ret (blk_ret (thn_ret (thn_ret (blk_ret (blk_ret (thn_ret (thn_ret (blk_ret (thn_ret ?_))))))))))))))
                  refine ret2 HE176 rfl (rv_tmp rfl) (rv_tmp rfl) ?_
                  have HH177 := HH125.vecNil (eSl (eSl eInt)) 50
                  have hF : (overlapsOf a0) = ([], 5) := by
                    first | (unfold overlapsOf; rw [if_pos hvr, show a0.length = i from by omega, if_pos p37_1]) | (unfold overlapsOf; rw [if_pos hvr, goodO_bad (i := i) (j := j) (by omega) (by omega) (cut_at hzx) (.inl (by assumption))]; rfl) | (unfold overlapsOf; rw [if_pos hvr, goodO_bad (i := i) (j := j) (by omega) (by omega) (cut_at hzx) (.inr (by omega))]; rfl) | (simp [overlapsOf, hc22, p25_0, p25_1, hc26, xe27, p30_0, p30_1, hc31, xe32, p37_0, p37_1, hc38, xex41, hc47]; done)
                  exact ⟨_, _, _, by first | (rw [hF] <;> rfl) | rfl | (rw [hF]; simp only [Ending.returned.injEq, Value.slice.injEq, true_and, and_true]; first | omega | (simp; done)) | (rw [hF]; simp; omega), by rw [hF]; exact HH177.sel [0] (by decide) rfl⟩
              · refine wp_exit ?_
                refine (thn_exit (thn_exit (blk_hit ?_)))
                refine blk_n ?_
                refine nrm ?_
                refine rg ?_
                refine pl_x HE110 HH108 (wt0 rfl) (x_add rfl rfl (by exact ⟨by omega, by omega⟩)) rfl rfl fun a_178 HE179 => ?_
                refine pl_x HE179 HH108 (wt0 rfl) (x_move rfl) rfl rfl fun a_180 HE181 => ?_
                refine wpList_nil ?_
                clear a_109 HE110 a_178 HE179
                have E54 : (allO a0 i ++ rowsO a0 i (j + 1)) = (allO a0 i ++ rowsO a0 i j ++ (rowO a0 i j).take v) := by
                  rw [rowsO_succ, ← List.append_assoc, List.take_of_length_le (by omega)]
                exact nrm ⟨a0.length - (j + 1), (by omega), j + 1, A_4, c_4, S_4, rfl, HE181.sub ⟨(by rw [E54]; rfl), (lkI rfl (by first | rfl | omega | (simp [hc22, p25_0, p25_1, hc26, xe27, p30_0, p30_1, hc31, xe32, p37_0, p37_1, hc38]; done))), rfl, rfl, rfl, rfl, rfl, rfl, rfl, rfl, trivial⟩, ((HH108.sel [0, 4] (by decide) rfl).to (by first | rfl | (rw [E54]; done) | (rw [E54]; rfl) | (simp only [E54]; done) | (simp only [E54]; rfl) | (rw [E54]; simp only [List.length_set]; done))), (by first | omega | assumption | (simp; done) | simp_all), (by have hq := p37_1; rw [List.take_of_length_le (by omega)] at hq; rw [rowsO_succ, ← List.append_assoc]; exact hq)⟩
          · refine wp_exit ?_
            refine (thn_exit (thn_exit (blk_hit ?_)))
            refine blk_n ?_
            refine nrm ?_
            refine rg ?_
            refine pl_x HE67 HH65 (wt0 rfl) (x_add rfl rfl (by exact ⟨by omega, by omega⟩)) rfl rfl fun a_182 HE183 => ?_
            refine pl_x HE183 HH65 (wt0 rfl) (x_move rfl) rfl rfl fun a_184 HE185 => ?_
            refine wpList_nil ?_
            clear a_66 HE67 a_182 HE183
            have E55 : allO a0 (i + 1) = (allO a0 i ++ rowsO a0 i j) := by
              rw [allO_succ, show j = a0.length from by omega]
            exact nrm ⟨a0.length - (i + 1), (by omega), i + 1, A_4, c_4, S_4, rfl, HE185.sub ⟨(by rw [E55]; rfl), (lkI rfl (by first | rfl | omega | (simp [hc22, p25_0, p25_1, hc26, xe27, p30_0, p30_1, hc31]; done))), rfl, rfl, rfl, trivial⟩, ((HH65.sel [0] (by decide) rfl).to (by first | rfl | (rw [E55]; done) | (rw [E55]; rfl) | (simp only [E55]; done) | (simp only [E55]; rfl) | (rw [E55]; simp only [List.length_set]; done))), (by first | omega | assumption | (simp; done) | simp_all), (by have hq := p30_1; rw [show j = a0.length from by omega] at hq; rw [allO_succ]; exact hq)⟩
      · refine wp_exit ?_
        refine (thn_exit (thn_exit (blk_hit ?_)))
        refine nrm ?_
        refine wp_seq ?_
        refine rg ?_
        refine pl_x HE40 HH38 (wt0 rfl) (x_move rfl) rfl rfl fun a_186 HE187 => ?_
        refine pl_x HE187 HH38 (wt0 rfl) (x_assign rfl) rfl rfl fun a_188 HE189 => ?_
        refine pl_x HE189 HH38 (wt0 rfl) (x_assign rfl) rfl rfl fun a_190 HE191 => ?_
        refine wpList_nil ?_
        clear a_39 HE40 a_186 HE187 a_188 HE189
        refine nrm ?_
        refine wp_ret ?_
        refine ret2 HE191 rfl (rv_tmp rfl) (rv_tmp rfl) ?_
        have hF : (overlapsOf a0) = (allO a0 i, 0) := by
          first | (unfold overlapsOf; rw [if_pos hvr, show a0.length = i from by omega, if_pos p25_1]) | (unfold overlapsOf; rw [if_pos hvr, goodO_bad (i := i) (j := j) (by omega) (by omega) (cut_at hzx) (.inl (by assumption))]; rfl) | (unfold overlapsOf; rw [if_pos hvr, goodO_bad (i := i) (j := j) (by omega) (by omega) (cut_at hzx) (.inr (by omega))]; rfl) | (simp [overlapsOf, hc22, p25_0, p25_1, hc26]; done)
        exact ⟨_, _, _, by first | (rw [hF] <;> rfl) | rfl | (rw [hF]; simp only [Ending.returned.injEq, Value.slice.injEq, true_and, and_true]; first | omega | (simp; done)) | (rw [hF]; simp; omega), by rw [hF]; exact HH38.sel [0] (by decide) rfl⟩

theorem goodO_bad2 {l : List tRewrite} {i j : Nat} {o v : List (List (List Int))} {x : List (List Int)} (hi : i < l.length) (hj : j < l.length) (hx : allO l i ++ rowsO l i j ++ rowO l i j = o ++ x :: v) (h : okW x = false ∨ o.length = 300) : goodO (allO l l.length) = false := by
  obtain ⟨s1, h1⟩ := rng_split (fun i => rowsO l i l.length) hi
  obtain ⟨s2, h2⟩ := rng_split (rowO l i) hj
  have hs : allO l l.length = (o ++ x :: v) ++ (s2 ++ s1) := by
    rw [← hx]
    show (List.range l.length).flatMap (fun i => rowsO l i l.length) = _
    rw [h1, show rowsO l i l.length = (List.range j).flatMap (rowO l i) ++ (rowO l i j ++ s2) from h2]
    unfold allO rowsO
    simp
  unfold goodO
  rw [hs]
  rcases h with h | h
  · simp [h]
  · have : ¬ ((o ++ x :: v) ++ (s2 ++ s1)).length ≤ 300 := by rw [List.length_append, List.length_append, h, List.length_cons]; omega
    rw [decide_eq_false this]; simp

theorem ovl_cons {a b : tRewrite} {same : Bool} {k : Nat} (hk : 1 ≤ k) (h : hitO a b same k = true) : ovl a b same k = triO a b k :: ovl a b same (k - 1) := by
  obtain ⟨n, rfl⟩ : ∃ n, k = n + 1 := ⟨k - 1, by omega⟩
  rw [ovl, if_pos h, Nat.add_sub_cancel]; rfl

theorem validRew_words {l : List tRewrite} (h : validRew l = true) : ∀ r ∈ l, allW r.1 0 9 = true ∧ allW r.2 0 9 = true := by
  intro r hr
  unfold validRew at h
  simp at h
  have := h.2 _ _ hr
  unfold rewBad isWord at this
  simp at this
  exact ⟨this.1.1.2, this.1.2.2⟩

theorem allW_app (x y : List Int) (lo hi : Int) : allW (x ++ y) lo hi = (allW x lo hi && allW y lo hi) := by
  unfold allW; rw [List.any_append]; simp

theorem allW_drop {x : List Int} {lo hi : Int} (k : Nat) (h : allW x lo hi = true) : allW (x.drop k) lo hi = true := by
  rw [← List.take_append_drop k x, allW_app, Bool.and_eq_true] at h; exact h.2

theorem allW_take {x : List Int} {lo hi : Int} (k : Nat) (h : allW x lo hi = true) : allW (x.take k) lo hi = true := by
  rw [← List.take_append_drop k x, allW_app, Bool.and_eq_true] at h; exact h.1

theorem okW_tri {l : List tRewrite} (h : validRew l = true) {a b : tRewrite} (ha : a ∈ l) (hb : b ∈ l) (k : Nat) : okW (triO a b k) = decide ((a.1 ++ b.1.drop k).length ≤ 400 ∧ (a.2 ++ b.1.drop k).length ≤ 400 ∧ (a.1.take (a.1.length - k) ++ b.2).length ≤ 400) := by
  obtain ⟨a1, a2⟩ := validRew_words h a ha
  obtain ⟨b1, b2⟩ := validRew_words h b hb
  have e1 : allW (a.1 ++ b.1.drop k) 0 9 = true := by rw [allW_app, a1, allW_drop k b1]; rfl
  have e2 : allW (a.2 ++ b.1.drop k) 0 9 = true := by rw [allW_app, a2, allW_drop k b1]; rfl
  have e3 : allW (a.1.take (a.1.length - k) ++ b.2) 0 9 = true := by rw [allW_app, allW_take _ a1, b2]; rfl
  unfold okW triO
  simp only [List.any_cons, List.any_nil, notWord, isWord, e1, e2, e3, Bool.and_true, Bool.or_false, Bool.not_or, Bool.not_not, Bool.decide_and]

theorem triO_of2 {a b : tRewrite} {k : Nat} : [a.1 ++ b.1.drop k, a.2 ++ b.1.drop k, a.1.take (((a.1.length : Int) - (k : Int))).toNat ++ b.2] = triO a b k := by
  have e : (((a.1.length : Int) - (k : Int))).toNat = a.1.length - k := by omega
  unfold triO; rw [e]

def minI (a b : Int) : Int := if a < b then a else b

theorem minI_N (a b : Nat) : minI a b = (minN a b : Nat) := by
  unfold minI minN
  by_cases h : b < a
  · rw [if_pos h, if_neg (by omega)]
  · rw [if_neg h]
    by_cases h2 : a = b
    · subst h2; simp
    · rw [if_pos (by omega)]

def sharesB (a b : List Int) (n : Nat) : Bool := eq_L (a.drop (a.length - n)) (b.take n)

theorem eqL_i {x y : List Int} : eq_L x y = decide (x = y) := by
  have key : ∀ x y : List Int, eqL eq_i x y = decide (x = y) := by
    intro x
    induction x with
    | nil => intro y; cases y <;> simp [eqL]
    | cons a x ih =>
      intro y
      cases y with
      | nil => simp [eqL]
      | cons b y => by_cases hab : a = b <;> simp [eqL, ih, eq_i, hab]
  exact key x y

theorem all_succ2 {p : Nat → Prop} {k : Nat} (h : ∀ i, i < k → p i) (hk : p k) : ∀ i, i < k + 1 → p i := fun i hi => by
  by_cases e : i = k
  · rw [e]; exact hk
  · exact h i (by omega)

theorem shares_t {a b : List Int} {n : Nat} (ha : n ≤ a.length) (hb : n ≤ b.length) (h : ∀ i, i < n → a[a.length - n + i]? = b[i]?) : sharesB a b n = true := by
  unfold sharesB
  rw [eqL_i, decide_eq_true_eq]
  refine List.ext_getElem? fun i => ?_
  rw [List.getElem?_drop]
  by_cases hi : i < n
  · rw [List.getElem?_take_of_lt hi]; exact h i hi
  · rw [List.getElem?_eq_none (by omega), List.getElem?_eq_none (by rw [List.length_take]; omega)]

theorem shares_f {a b : List Int} {n i : Nat} (hi : i < n) (h : a[a.length - n + i]? ≠ b[i]?) : sharesB a b n = false := by
  unfold sharesB
  rw [eqL_i, decide_eq_false_iff_not]
  intro e
  apply h
  rw [← List.getElem?_drop, e, List.getElem?_take_of_lt hi]

set_option maxRecDepth 100000 in
set_option maxHeartbeats 4000000 in
theorem spec_l00Min (a0 : Int) (a1 : Int) (w : World)  :
    Calls Try.prog 40 #[.int .i64 a0, .int .i64 a1] w fun e w' => e = .returned (.int .i64 (minI a0 a1)) ∧ Below w.heap.size w w' := by
  have HH1 := Held.start Nob w
  refine enter (n := 10) Try.func40 rfl rfl rfl fun a_2 HE3 => ?_
  refine wp_seq ?_
  refine rg ?_
  refine pl_x HE3 HH1 (wt0 rfl) (x_assign rfl) rfl rfl fun a_4 HE5 => ?_
  refine wpList_nil ?_
  clear a_2 HE3
  refine nrm ?_
  refine wp_seq ?_
  refine wp_seq ?_
  refine rg ?_
  refine pl_x HE5 HH1 (wt0 rfl) (x_move rfl) rfl rfl fun a_6 HE7 => ?_
  refine pl_x HE7 HH1 (wt0 rfl) (x_move rfl) rfl rfl fun a_8 HE9 => ?_
  refine pl_x HE9 HH1 (wt0 rfl) (x_lss rfl rfl) rfl rfl fun a_10 HE11 => ?_
  refine wpList_nil ?_
  clear a_4 HE5 a_6 HE7 a_8 HE9
  refine nrm ?_
  refine cnd_d HE11 rfl (fun hc21 => ?_) (fun hc21 => ?_)
  · refine wp_seq ?_
    refine rg ?_
    refine pl_x HE11 HH1 (wt0 rfl) (x_move rfl) rfl rfl fun a_12 HE13 => ?_
    refine pl_x HE13 HH1 (wt0 rfl) (x_assign rfl) rfl rfl fun a_14 HE15 => ?_
    refine wpList_nil ?_
    clear a_10 HE11 a_12 HE13
    refine nrm ?_
    refine wp_ret ?_
    refine (thn_ret ?_)
    refine ret1 HE15 rfl (rv_tmp rfl) ?_
    have hF : (minI a0 a1) = a0 := by
      first | rfl | (simp [minI, hc21]; done) | (simp [minI, hc21]; omega) | grind [minI]
    exact ⟨by first | (rw [hF] <;> rfl) | rfl | (rw [hF]; simp only [Ending.returned.injEq, Value.slice.injEq, true_and, and_true]; first | omega | (simp; done)) | (rw [hF]; simp; omega), HH1.below⟩
  · refine wp_skip ?_
    refine nrm ?_
    refine wp_seq ?_
    refine rg ?_
    refine pl_x HE11 HH1 (wt0 rfl) (x_move rfl) rfl rfl fun a_16 HE17 => ?_
    refine pl_x HE17 HH1 (wt0 rfl) (x_assign rfl) rfl rfl fun a_18 HE19 => ?_
    refine wpList_nil ?_
    clear a_10 HE11 a_16 HE17
    refine nrm ?_
    refine wp_ret ?_
    refine ret1 HE19 rfl (rv_tmp rfl) ?_
    have hF : (minI a0 a1) = a1 := by
      first | rfl | (simp [minI, hc21]; done) | (simp [minI, hc21]; omega) | grind [minI]
    exact ⟨by first | (rw [hF] <;> rfl) | rfl | (rw [hF]; simp only [Ending.returned.injEq, Value.slice.injEq, true_and, and_true]; first | omega | (simp; done)) | (rw [hF]; simp; omega), HH1.below⟩

set_option maxRecDepth 100000 in
set_option maxHeartbeats 4000000 in
theorem spec_l10Shares (A0 : Option Addr) (c0 : Nat) (a0 : (List Int)) (A1 : Option Addr) (c1 : Nat) (a1 : (List Int)) (a2 : Nat) (w : World) (h0 : Sl eInt w (Old w) A0 c0 a0) (h1 : Sl eInt w (Old w) A1 c1 a1) (s0 : a2 ≤ a0.length) (s1 : a2 ≤ a1.length) :
    Calls Try.prog 41 #[.slice A0 a0.length c0, .slice A1 a1.length c1, .int .i64 (a2 : Int)] w fun e w' => e = .returned (.bool (sharesB a0 a1 a2)) ∧ Below w.heap.size w w' := by
  have l0 := h0.len
  have l1 := h1.len
  have HH1 := Held.start Nob w
  refine enter (n := 27) Try.func41 rfl rfl rfl fun a_2 HE3 => ?_
  refine wp_seq ?_
  refine rg ?_
  refine pl_x HE3 HH1 (wt0 rfl) (x_assign rfl) rfl rfl fun a_4 HE5 => ?_
  refine wpList_nil ?_
  clear a_2 HE3
  refine nrm ?_
  refine wp_seq ?_
  refine wp_seq ?_
  refine rg ?_
  refine pl_x HE5 HH1 (wt0 rfl) (x_assign rfl) rfl rfl fun a_6 HE7 => ?_
  refine wpList_nil ?_
  clear a_4 HE5
  refine nrm ?_
  refine wp_block ?_
  refine lp (fun m a w' => ∃ (v : Nat), m = a2 - v ∧ Env 27 [(7, .int .i64 (v : Int)), (0, .slice A0 (a0.length) c0), (1, .slice A1 (a1.length) c1), (2, .int .i64 ((a2 : Int)))] a ∧ Held Nob w [] w' ∧ (v ≤ a2) ∧ (∀ i, i < v → a0[a0.length - a2 + i]? = a1[i]?)) (a2 - (0)) ?_ ?_
  · exact ⟨0, rfl, HE7.sub ⟨(lkI rfl (by first | rfl | omega | (simp []; done))), rfl, rfl, rfl, trivial⟩, (HH1.sel [] (by decide) rfl), (by first | omega | assumption | (simp; done) | simp_all), (by intro i hi; omega)⟩
  · rintro m a_8 w' ⟨v, rfl, HE9, HH10, p21_0, p21_1⟩
    refine wp_seq ?_
    refine wp_seq ?_
    refine rg ?_
    refine pl_x HE9 HH10 (wt0 rfl) (x_move rfl) rfl rfl fun a_11 HE12 => ?_
    refine pl_x HE12 HH10 (wt0 rfl) (x_move rfl) rfl rfl fun a_13 HE14 => ?_
    refine pl_x HE14 HH10 (wt0 rfl) (x_lss rfl rfl) rfl rfl fun a_15 HE16 => ?_
    refine wpList_nil ?_
    clear a_6 HE7 HH1 a_8 HE9 a_11 HE12 a_13 HE14
    refine nrm ?_
    refine cnd_d HE16 rfl (fun hc22 => ?_) (fun hc22 => ?_)
    · refine wp_skip ?_
      refine nrm ?_
      refine wp_seq ?_
      refine wp_block ?_
      refine wp_seq ?_
      refine dr_start (Held Nob w []) 14 #[false, false, false, false, false, false, false, false, false, false, false, false, false, false] hmix rfl rfl HH10 (fun _ h => h.sel [] (by decide) rfl) fun w' HH17 => ?_
      have HS18 := HH17
      refine dr_take (i := 0) (ls' := #[true, false, false, false, false, false, false, false, false, false, false, false, false, false]) HE16 HS18 rfl (by kernel_rfl) (by kernel_rfl) (by kernel_rfl) (fun _ _ _ h => h) rfl (wt0 rfl) (x_move rfl) rfl rfl fun a_19 HE20 => ?_
      refine dr_take (i := 1) (ls' := #[true, true, false, false, false, false, false, false, false, false, false, false, false, false]) HE20 HS18 rfl (by kernel_rfl) (by kernel_rfl) (by kernel_rfl) (fun _ _ _ h => h) rfl (wt0 rfl) (x_move rfl) rfl rfl fun a_21 HE22 => ?_
      refine dr_take (i := 2) (ls' := #[true, true, true, false, false, false, false, false, false, false, false, false, false, false]) HE22 HS18 rfl (by kernel_rfl) (by kernel_rfl) (by kernel_rfl) (fun _ _ _ h => h) rfl (wt0 rfl) (x_len Try.underlying37 rfl) rfl rfl fun a_23 HE24 => ?_
      refine dr_take (i := 3) (ls' := #[true, true, true, true, false, false, false, false, false, false, false, false, false, false]) HE24 HS18 rfl (by kernel_rfl) (by kernel_rfl) (by kernel_rfl) (fun _ _ _ h => h) rfl (wt0 rfl) (x_move rfl) rfl rfl fun a_25 HE26 => ?_
      refine dr_take (i := 4) (ls' := #[true, true, true, true, true, false, false, false, false, false, false, false, false, false]) HE26 HS18 rfl (by kernel_rfl) (by kernel_rfl) (by kernel_rfl) (fun _ _ _ h => h) rfl (wt0 rfl) (x_sub rfl rfl (by exact ⟨by omega, by omega⟩)) rfl rfl fun a_27 HE28 => ?_
      refine dr_take (i := 5) (ls' := #[true, true, true, true, true, true, false, false, false, false, false, false, false, false]) HE28 HS18 rfl (by kernel_rfl) (by kernel_rfl) (by kernel_rfl) (fun _ _ _ h => h) rfl (wt0 rfl) (x_move rfl) rfl rfl fun a_29 HE30 => ?_
      refine dr_take (i := 6) (ls' := #[true, true, true, true, true, true, true, false, false, false, false, false, false, false]) HE30 HS18 rfl (by kernel_rfl) (by kernel_rfl) (by kernel_rfl) (fun _ _ _ h => h) rfl (wt0 rfl) (x_add rfl rfl (by exact ⟨by omega, by omega⟩)) rfl rfl fun a_31 HE32 => ?_
      have ke23 : ((((a0.length : Int) - (a2 : Int)) + (v : Int))).toNat < a0.length := by omega
      obtain ⟨be23, fe23, ese23, Ae23, Re23, De23⟩ := el_old h0 ke23
      obtain ⟨e23, xe23⟩ : ∃ x_, x_ = a0[((((a0.length : Int) - (a2 : Int)) + (v : Int))).toNat] := ⟨_, rfl⟩
      rw [← xe23] at Re23
      have Qe23 := Re23
      obtain ⟨rfl, ie23⟩ := Re23
      have je23 := ie23; unfold I64 at je23
      have hk0 : a0[((((a0.length : Int) - (a2 : Int)) + (v : Int))).toNat]? = some e23 := by rw [xe23]; exact List.getElem?_eq_getElem _
      have ha0 : a0[a0.length - a2 + v]? = some e23 := by rw [← hk0]; congr 1; omega
      refine dr_take (i := 7) (ls' := #[true, true, true, true, true, true, true, true, false, false, false, false, false, false]) HE32 HS18 rfl (by kernel_rfl) (by kernel_rfl) (by kernel_rfl) (fun _ _ _ h => h) rfl (wt0 rfl) (x_indexAddr ts_37 rfl rfl Ae23 (by omega) ke23) rfl rfl fun a_33 HE34 => ?_
      refine dr_take (i := 8) (ls' := #[true, true, true, true, true, true, true, true, true, false, false, false, false, false]) HE34 HS18 rfl (by kernel_rfl) (by kernel_rfl) (by kernel_rfl) (fun _ _ _ h => h) rfl (wt0 rfl) (x_load1 tv_2 rfl (c_old (De23 0 _ rfl))) rfl rfl fun a_35 HE36 => ?_
      refine dr_take (i := 9) (ls' := #[true, true, true, true, true, true, true, true, true, true, false, false, false, false]) HE36 HS18 rfl (by kernel_rfl) (by kernel_rfl) (by kernel_rfl) (fun _ _ _ h => h) rfl (wt0 rfl) (x_move rfl) rfl rfl fun a_37 HE38 => ?_
      refine dr_take (i := 10) (ls' := #[true, true, true, true, true, true, true, true, true, true, true, false, false, false]) HE38 HS18 rfl (by kernel_rfl) (by kernel_rfl) (by kernel_rfl) (fun _ _ _ h => h) rfl (wt0 rfl) (x_move rfl) rfl rfl fun a_39 HE40 => ?_
      have ke24 : v < a1.length := by omega
      obtain ⟨be24, fe24, ese24, Ae24, Re24, De24⟩ := el_old h1 ke24
      obtain ⟨e24, xe24⟩ : ∃ x_, x_ = a1[v] := ⟨_, rfl⟩
      rw [← xe24] at Re24
      have Qe24 := Re24
      obtain ⟨rfl, ie24⟩ := Re24
      have je24 := ie24; unfold I64 at je24
      have ha1 : a1[v]? = some e24 := by rw [xe24]; exact List.getElem?_eq_getElem _
      refine dr_take (i := 11) (ls' := #[true, true, true, true, true, true, true, true, true, true, true, true, false, false]) HE40 HS18 rfl (by kernel_rfl) (by kernel_rfl) (by kernel_rfl) (fun _ _ _ h => h) rfl (wt0 rfl) (x_indexAddr ts_37 rfl rfl Ae24 rfl ke24) rfl rfl fun a_41 HE42 => ?_
      refine dr_take (i := 12) (ls' := #[true, true, true, true, true, true, true, true, true, true, true, true, true, false]) HE42 HS18 rfl (by kernel_rfl) (by kernel_rfl) (by kernel_rfl) (fun _ _ _ h => h) rfl (wt0 rfl) (x_load1 tv_2 rfl (c_old (De24 0 _ rfl))) rfl rfl fun a_43 HE44 => ?_
      refine dr_take (i := 13) (ls' := #[true, true, true, true, true, true, true, true, true, true, true, true, true, true]) HE44 HS18 rfl (by kernel_rfl) (by kernel_rfl) (by kernel_rfl) (fun _ _ _ h => h) rfl (wt0 rfl) (x_neq rfl rfl) rfl rfl fun a_45 HE46 => ?_
      refine dr_done (by kernel_rfl) ?_
      clear HH10 a_15 HE16 a_19 HE20 a_21 HE22 a_23 HE24 a_25 HE26 a_27 HE28 a_29 HE30 a_31 HE32 a_33 HE34 a_35 HE36 a_37 HE38 a_39 HE40 a_41 HE42 a_43 HE44
      refine nrm ?_
      refine cnd_ne HE46 rfl (fun hc25 => ?_) (fun hc25 => ?_)
      · refine wp_seq ?_
        refine rg ?_
        refine pl_x HE46 HH17 (wt0 rfl) (x_assign rfl) rfl rfl fun a_47 HE48 => ?_
        refine wpList_nil ?_
        clear a_45 HE46
        refine nrm ?_
        refine wp_ret ?_
        refine (blk_ret (thn_ret (thn_ret (blk_ret (thn_ret ?_)))))
        refine ret1 HE48 rfl (rv_tmp rfl) ?_
        have hF : (sharesB a0 a1 a2) = false := by
          first | exact shares_t s0 s1 (fun i hi => p21_1 i (by omega)) | exact shares_f (i := v) (by omega) (by rw [ha0, ha1, ne_eq, Option.some.injEq]; omega)
        exact ⟨by first | (rw [hF] <;> rfl) | rfl | (rw [hF]; simp only [Ending.returned.injEq, Value.slice.injEq, true_and, and_true]; first | omega | (simp; done)) | (rw [hF]; simp; omega), HH17.below⟩
      · refine wp_skip ?_
        refine blk_n ?_
        refine nrm ?_
        refine rg ?_
        refine pl_x HE46 HH17 (wt0 rfl) (x_move rfl) rfl rfl fun a_49 HE50 => ?_
        refine pl_x HE50 HH17 (wt0 rfl) (x_add rfl rfl (by exact ⟨by omega, by omega⟩)) rfl rfl fun a_51 HE52 => ?_
        refine pl_x HE52 HH17 (wt0 rfl) (x_assign rfl) rfl rfl fun a_53 HE54 => ?_
        refine wpList_nil ?_
        clear a_45 HE46 a_49 HE50 a_51 HE52
        exact nrm ⟨a2 - (v + 1), (by omega), v + 1, rfl, HE54.sub ⟨(lkI rfl (by first | rfl | omega | (simp [p21_0, p21_1, hc22, xe23, xe24, hc25]; done))), rfl, rfl, rfl, trivial⟩, (HH17.sel [] (by decide) rfl), (by first | omega | assumption | (simp; done) | simp_all), (by exact all_succ2 p21_1 (by rw [ha0, ha1, Option.some.injEq]; omega))⟩
    · refine wp_exit ?_
      refine (thn_exit (thn_exit (blk_hit ?_)))
      refine nrm ?_
      refine wp_seq ?_
      refine rg ?_
      refine pl_x HE16 HH10 (wt0 rfl) (x_assign rfl) rfl rfl fun a_55 HE56 => ?_
      refine wpList_nil ?_
      clear a_15 HE16
      refine nrm ?_
      refine wp_ret ?_
      refine ret1 HE56 rfl (rv_tmp rfl) ?_
      have hF : (sharesB a0 a1 a2) = true := by
        first | exact shares_t s0 s1 (fun i hi => p21_1 i (by omega)) | exact shares_f (i := v) (by omega) (by rw [ha0, ha1, ne_eq, Option.some.injEq]; omega)
      exact ⟨by first | (rw [hF] <;> rfl) | rfl | (rw [hF]; simp only [Ending.returned.injEq, Value.slice.injEq, true_and, and_true]; first | omega | (simp; done)) | (rw [hF]; simp; omega), HH10.below⟩

end Go.Proofs.Ythfihlfjphiihaa
