/- What the proof of FnExactExponentsAt needs: contracts of the functions that it reaches, each once. -/
import Derived.Test.YtfcajgbehecfbaaProg
import Derived.Test.YtfcajgbehecfbaaQMem
import Derived.Test.YtfcajgbehecfbaaQOpen
import Derived.Test.YtfcajgbehecfbaaLExponentsAta
import Derived.WalkKit
import Derived.WalkSpells
import Derived.Below
import Derived.LoopTactic
import Derived.Outline
import Derived.Deep.QuietTactic
import Derived.BigQuiet
import Derived.Deep.LoopGhost
import Derived.Handy
import Derived.Lib.Hide
import Derived.Shelf.Abstract
import Derived.StillTailTactics
import Derived.OwnWalk
import Derived.Maps.AppendAt
import Derived.RegionTactic
import Derived.Deep.RegionHeld3
import Derived.IntWalk
import Derived.Deep.Upon
import Derived.Laws.OwnMore
import Derived.Maps.AppendAt
import Derived.Lib.SliceRun
import Derived.Lib.AppendZeros
namespace Go.Proofs.Ytfcajgbehecfbaa
open Go.RowKit

set_option maxRecDepth 100000 in
set_option maxHeartbeats 4000000 in
theorem spec_l01Prime (a0 : Int) (w : World) (s0 : -1000 ≤ a0 ∧ a0 ≤ 999999) :
    Calls Try.prog 98 #[.int .i64 a0] w fun e w' => e = .returned (.bool (primeB a0)) ∧ Below w.heap.size w w' := by
  have HH1 := Held.start Nob w
  refine enter (n := 17) Try.func98 rfl rfl rfl fun a_2 HE3 => ?_
  refine wp_seq ?_
  refine rg ?_
  refine pl_x HE3 HH1 (wt0 rfl) (x_assign rfl) rfl rfl fun a_4 HE5 => ?_
  refine wpList_nil ?_
  clear a_2 HE3
  refine nrm ?_
  refine wp_seq ?_
  refine wp_seq ?_
  refine rg ?_
  refine pl_x HE5 HH1 (wt0 rfl) (x_move rfl) rfl rfl fun a_6 HE7 => ?_
  refine pl_x HE7 HH1 (wt0 rfl) (x_lss rfl rfl) rfl rfl fun a_8 HE9 => ?_
  refine wpList_nil ?_
  clear a_4 HE5 a_6 HE7
  refine nrm ?_
  refine cnd_d HE9 rfl (fun hc21 => ?_) (fun hc21 => ?_)
  · refine wp_seq ?_
    refine rg ?_
    refine pl_x HE9 HH1 (wt0 rfl) (x_assign rfl) rfl rfl fun a_10 HE11 => ?_
    refine wpList_nil ?_
    clear a_8 HE9
    refine nrm ?_
    refine wp_ret ?_
    refine (thn_ret ?_)
    refine ret1 HE11 rfl (rv_tmp rfl) ?_
    have hF : (primeB a0) = false := by
      first | (unfold primeB; rw [p0_1, heq, if_pos (by omega), if_pos (by omega)]; rfl) | (unfold primeB; rw [p0_1, heq, if_neg (by omega)]; simp; done) | (unfold primeB; rw [p0_1, heq, if_neg (by omega)]; simp; omega) | (unfold primeB; rw [decide_eq_false (by omega)]; simp)
    exact ⟨by rw [hF] <;> rfl, HH1.below⟩
  · refine wp_skip ?_
    refine nrm ?_
    refine wp_seq ?_
    refine wp_seq ?_
    refine rg ?_
    refine pl_x HE9 HH1 (wt0 rfl) (x_assign rfl) rfl rfl fun a_12 HE13 => ?_
    refine wpList_nil ?_
    clear a_8 HE9
    refine nrm ?_
    refine wp_block ?_
    refine lp (fun m a w' => ∃ (k : Nat), m = 1000 - k ∧ Env 17 [(3, .int .i64 ((k : Int) + 2)), (0, .int .i64 (a0))] a ∧ Held Nob w [] w' ∧ ((k : Int) ≤ 999) ∧ (noDiv a0 2 2000 = noDiv a0 ((k : Int) + 2) (2000 - k))) (1000 - (0)) ?_ ?_
    · exact ⟨0, rfl, HE13.sub ⟨(lkI rfl (by first | rfl | omega | (simp [hc21]; done))), rfl, trivial⟩, (HH1.sel [] (by decide) rfl), (by first | omega | assumption | (simp; done) | simp_all), (by rfl)⟩
    · rintro m a_14 w' ⟨k, rfl, HE15, HH16, p22_0, p22_1⟩
      have hsq := sq_bd (d := (k : Int) + 2) (by omega)
      have heq := noDiv_eq a0 ((k : Int) + 2) (f := 2000 - k) (g := 2000 - (k + 1)) (by omega)
      refine wp_seq ?_
      refine wp_seq ?_
      refine rg ?_
      refine pl_x HE15 HH16 (wt0 rfl) (x_move rfl) rfl rfl fun a_17 HE18 => ?_
      refine pl_x HE18 HH16 (wt0 rfl) (x_move rfl) rfl rfl fun a_19 HE20 => ?_
      refine pl_x HE20 HH16 (wt0 rfl) (x_mul rfl rfl (by exact ⟨by omega, by omega⟩)) rfl rfl fun a_21 HE22 => ?_
      refine pl_x HE22 HH16 (wt0 rfl) (x_move rfl) rfl rfl fun a_23 HE24 => ?_
      refine pl_x HE24 HH16 (wt0 rfl) (x_leq rfl rfl) rfl rfl fun a_25 HE26 => ?_
      refine wpList_nil ?_
      clear a_12 HE13 HH1 a_14 HE15 a_17 HE18 a_19 HE20 a_21 HE22 a_23 HE24
      refine nrm ?_
      refine cnd_d HE26 rfl (fun hc23 => ?_) (fun hc23 => ?_)
      · refine wp_skip ?_
        refine nrm ?_
        refine wp_seq ?_
        refine wp_block ?_
        refine wp_seq ?_
        refine rg ?_
        refine pl_x HE26 HH16 (wt0 rfl) (x_move rfl) rfl rfl fun a_27 HE28 => ?_
        refine pl_x HE28 HH16 (wt0 rfl) (x_move rfl) rfl rfl fun a_29 HE30 => ?_
        refine pl_x HE30 HH16 (wt0 rfl) (x_rem rfl rfl (by omega) (by omega)) rfl rfl fun a_31 HE32 => ?_
        refine pl_x HE32 HH16 (wt0 rfl) (x_eql rfl rfl) rfl rfl fun a_33 HE34 => ?_
        refine wpList_nil ?_
        clear a_25 HE26 a_27 HE28 a_29 HE30 a_31 HE32
        refine nrm ?_
        refine cnd_e HE34 rfl (fun hc24 => ?_) (fun hc24 => ?_)
        · refine wp_seq ?_
          refine rg ?_
          refine pl_x HE34 HH16 (wt0 rfl) (x_assign rfl) rfl rfl fun a_35 HE36 => ?_
          refine wpList_nil ?_
          clear a_33 HE34
          refine nrm ?_
          refine wp_ret ?_
          refine (blk_ret (thn_ret (thn_ret (blk_ret (thn_ret ?_)))))
          refine ret1 HE36 rfl (rv_tmp rfl) ?_
          have hF : (primeB a0) = false := by
            first | (unfold primeB; rw [p22_1, heq, if_pos (by omega), if_pos (by omega)]; rfl) | (unfold primeB; rw [p22_1, heq, if_neg (by omega)]; simp; done) | (unfold primeB; rw [p22_1, heq, if_neg (by omega)]; simp; omega) | (unfold primeB; rw [decide_eq_false (by omega)]; simp)
          exact ⟨by rw [hF] <;> rfl, HH16.below⟩
        · refine wp_skip ?_
          refine blk_n ?_
          refine nrm ?_
          refine rg ?_
          refine pl_x HE34 HH16 (wt0 rfl) (x_move rfl) rfl rfl fun a_37 HE38 => ?_
          refine pl_x HE38 HH16 (wt0 rfl) (x_add rfl rfl (by exact ⟨by omega, by omega⟩)) rfl rfl fun a_39 HE40 => ?_
          refine pl_x HE40 HH16 (wt0 rfl) (x_assign rfl) rfl rfl fun a_41 HE42 => ?_
          refine wpList_nil ?_
          clear a_33 HE34 a_37 HE38 a_39 HE40
          exact nrm ⟨1000 - (k + 1), (by omega), k + 1, rfl, HE42.sub ⟨(lkI rfl (by first | rfl | omega | (simp [hc21, p22_0, p22_1, hc23, hc24]; done))), rfl, trivial⟩, (HH16.sel [] (by decide) rfl), (by have := sq_le (d := (k : Int) + 2) (n := a0) (by omega) (by omega) (by omega); omega), (by rw [p22_1, heq, if_pos (by omega), if_neg (by omega), show (((k + 1 : Nat) : Int) + 2) = (k : Int) + 2 + 1 from by omega])⟩
      · refine wp_exit ?_
        refine (thn_exit (thn_exit (blk_hit ?_)))
        refine nrm ?_
        refine wp_seq ?_
        refine rg ?_
        refine pl_x HE26 HH16 (wt0 rfl) (x_assign rfl) rfl rfl fun a_43 HE44 => ?_
        refine wpList_nil ?_
        clear a_25 HE26
        refine nrm ?_
        refine wp_ret ?_
        refine ret1 HE44 rfl (rv_tmp rfl) ?_
        have hF : (primeB a0) = true := by
          first | (unfold primeB; rw [p22_1, heq, if_pos (by omega), if_pos (by omega)]; rfl) | (unfold primeB; rw [p22_1, heq, if_neg (by omega)]; simp; done) | (unfold primeB; rw [p22_1, heq, if_neg (by omega)]; simp; omega) | (unfold primeB; rw [decide_eq_false (by omega)]; simp)
        exact ⟨by rw [hF] <;> rfl, HH16.below⟩

def valPc (n : List Int) (p : Int) : Int × Int := (valP n p, 0)

theorem impl_ValuationOfN (A : Option Addr) (c : Nat) (n : List Int) (p : Int) (w : World) (h : Sl eInt w (Old w) A c n) (hN : NatP n) (hp : 2 ≤ p ∧ p ≤ 999999) :
    Calls Try.prog 106 #[.slice A n.length c, .int .i64 p] w fun e w' => e = .returned (.tuple #[.int .i64 (valPc n p).1, .int .i64 (valPc n p).2]) ∧ Below w.heap.size w w' := by
  have h1 := impl_ValuationOf A c n p w h
  have h2 : valuationOf n p = valPc n p := by
    unfold valuationOf valPc
    rw [if_pos hN.2.2.2, if_pos ⟨NatP_pos hN, hp⟩]
  rwa [h2] at h1

def divE (p : Int) : Nat → List Int → List Int
  | 0, n => n
  | e + 1, n => divE p e (divN n p).1

theorem divE_snoc (p : Int) : ∀ (e : Nat) (n : List Int), divE p (e + 1) n = (divN (divE p e n) p).1
  | 0, _ => rfl
  | e + 1, n => by rw [divE, divE_snoc p e, divE]

theorem NatP_divE {p : Int} (hp : 2 ≤ p ∧ p ≤ 999999) : ∀ (g : Nat) (y : List Int) (j : Nat), NatP y → (j : Int) ≤ valF g y p → NatP (divE p j y)
  | _, y, 0, h, _ => h
  | 0, y, j + 1, h, hj => by rw [valF] at hj; omega
  | g + 1, y, j + 1, h, hj => by
    rw [valF] at hj
    split at hj
    · rename_i hr
      rw [divE]
      exact NatP_divE hp g _ j (NatP_div hp h hr).1 (by omega)
    · omega

theorem valF_bd (p : Int) : ∀ (g : Nat) (y : List Int), 0 ≤ valF g y p ∧ valF g y p ≤ g
  | 0, _ => by simp [valF]
  | g + 1, y => by
    have := valF_bd p g (divN y p).1
    rw [valF]
    split <;> omega

def expS (s : List Int × List Int) (p : Int) : List Int × List Int := (s.1 ++ [valP s.2 p], divE p (valP s.2 p).toNat s.2)

def expTo (ps : List Int) (n : List Int) : List Int × List Int := ps.foldl expS ([], n)

theorem expTo_succ {ps : List Int} {n : List Int} {k : Nat} (h : k < ps.length) : expTo (ps.take (k + 1)) n = expS (expTo (ps.take k) n) ps[k] := by
  unfold expTo
  rw [List.take_succ_eq_append_getElem h, List.foldl_append]; rfl

theorem expTo_len {n : List Int} : ∀ (k : Nat) {ps : List Int}, k ≤ ps.length → (expTo (ps.take k) n).1.length = k
  | 0, _, _ => rfl
  | k + 1, ps, h => by
    rw [expTo_succ (by omega), expS, List.length_append, expTo_len k (by omega)]; rfl

theorem NatP_exp {n : List Int} {ps : List Int} (hn : NatP n) (hp : ∀ p ∈ ps, 2 ≤ p ∧ p ≤ 999999) : ∀ k, k ≤ ps.length → NatP (expTo (ps.take k) n).2
  | 0, _ => hn
  | k + 1, h => by
    rw [expTo_succ (by omega)]
    have h1 := valF_bd ps[k] 800 (expTo (ps.take k) n).2
    exact NatP_divE (hp _ (List.getElem_mem _)) 800 _ _ (NatP_exp hn hp k (by omega)) (by show ((valF 800 _ _).toNat : Int) ≤ _; omega)

def risesB (xs : List Int) (lo hi : Int) : Bool := risB xs && allW xs lo hi

def badRs (xs : List Int) (lo hi : Int) (k : Nat) : Bool := !withinB (xs[k]?.getD 0) lo hi || (decide (0 < k) && decide (xs[k]?.getD 0 ≤ xs[k - 1]?.getD 0))

theorem risesB_hit {xs : List Int} {lo hi : Int} {k : Nat} (hk : k < xs.length) (h : badRs xs lo hi k = true) : risesB xs lo hi = false := by
  unfold badRs at h
  rw [List.getElem?_eq_getElem hk, Option.getD_some] at h
  unfold risesB
  rcases Bool.or_eq_true _ _ ▸ h with h1 | h1
  · have : allW xs lo hi = false := by
      unfold allW
      rw [any_hit hk (by rw [outB_eq]; exact h1)]; rfl
    rw [this]; simp
  · simp only [Bool.and_eq_true, decide_eq_true_eq] at h1
    obtain ⟨j, rfl⟩ : ∃ j, k = j + 1 := ⟨k - 1, by omega⟩
    rw [Nat.add_sub_cancel, List.getElem?_eq_getElem (by omega), Option.getD_some] at h1
    rw [risB_get xs j hk h1.2]; rfl

theorem risesB_all {xs : List Int} {lo hi : Int} (h : (List.range xs.length).any (badRs xs lo hi) = false) : risesB xs lo hi = true := by
  have key : ∀ k (hk : k < xs.length), withinB xs[k] lo hi = true ∧ (0 < k → xs[k - 1]?.getD 0 < xs[k]) := by
    intro k hk
    have h1 : badRs xs lo hi k = false := by
      refine Classical.byContradiction fun hn => ?_
      rw [rg_hit hk (by simpa using hn)] at h; cases h
    unfold badRs at h1
    rw [List.getElem?_eq_getElem hk, Option.getD_some] at h1
    simp only [Bool.or_eq_false_iff, Bool.not_eq_false', Bool.and_eq_false_iff, decide_eq_false_iff_not] at h1
    exact ⟨h1.1, fun h0 => by rcases h1.2 with h2 | h2 <;> omega⟩
  unfold risesB
  rw [risB_all xs fun k hk => by
    have := (key (k + 1) hk).2 (by omega)
    rwa [Nat.add_sub_cancel, List.getElem?_eq_getElem (by omega), Option.getD_some] at this]
  rw [allW_of fun x hx => by
    obtain ⟨k, hk, rfl⟩ := List.getElem_of_mem hx
    exact withinB_true.1 (key k hk).1]
  rfl

def notP (p : Int) : Bool := !primeB p

def expsAt (n ps : List Int) : List Int × List Int × Int :=
  if isPos n = true then (if ps.length ≤ 64 ∧ risesB ps 2 999999 = true ∧ ps.any notP = false then ((expTo ps n).1, (expTo ps n).2, 0) else ([], [], 2)) else ([], [], 1)

set_option maxRecDepth 100000 in
set_option maxHeartbeats 4000000 in
theorem spec_l00RisesE (A0 : Option Addr) (c0 : Nat) (a0 : (List Int)) (a1 : Int) (a2 : Int) (w : World) (h0 : Sl eInt w (Old w) A0 c0 a0) :
    Calls Try.prog 97 #[.slice A0 a0.length c0, .int .i64 a1, .int .i64 a2] w fun e w' => e = .returned (.bool (risesB a0 a1 a2)) ∧ Below w.heap.size w w' := by
  have l0 := h0.len
  have HH1 := Held.start Nob w
  refine enter (n := 38) Try.func97 rfl rfl rfl fun a_2 HE3 => ?_
  refine wp_seq ?_
  refine rg ?_
  refine pl_x HE3 HH1 (wt0 rfl) (x_assign rfl) rfl rfl fun a_4 HE5 => ?_
  refine wpList_nil ?_
  clear a_2 HE3
  refine nrm ?_
  refine wp_seq ?_
  refine wp_seq ?_
  refine rg ?_
  refine pl_x HE5 HH1 (wt0 rfl) (x_assign rfl) rfl rfl fun a_6 HE7 => ?_
  refine wpList_nil ?_
  clear a_4 HE5
  refine nrm ?_
  refine wp_block ?_
  refine lp (fun m a w' => ∃ (k : Nat), m = a0.length - k ∧ Env 38 [(7, .int .i64 (k : Int)), (0, .slice A0 (a0.length) c0), (1, .int .i64 (a1)), (2, .int .i64 (a2))] a ∧ Held Nob w [] w' ∧ (k ≤ a0.length) ∧ ((List.range k).any (badRs a0 a1 a2) = false)) (a0.length - (0)) ?_ ?_
  · exact ⟨0, rfl, HE7.sub ⟨(lkI rfl (by first | rfl | omega | (simp []; done))), rfl, rfl, rfl, trivial⟩, (HH1.sel [] (by decide) rfl), (by first | omega | assumption | (simp; done) | simp_all), (by rfl)⟩
  · rintro m a_8 w' ⟨k, rfl, HE9, HH10, p21_0, p21_1⟩
    refine wp_seq ?_
    refine wp_seq ?_
    refine rg ?_
    refine pl_x HE9 HH10 (wt0 rfl) (x_move rfl) rfl rfl fun a_11 HE12 => ?_
    refine pl_x HE12 HH10 (wt0 rfl) (x_move rfl) rfl rfl fun a_13 HE14 => ?_
    refine pl_x HE14 HH10 (wt0 rfl) (x_len Try.underlying31 rfl) rfl rfl fun a_15 HE16 => ?_
    refine pl_x HE16 HH10 (wt0 rfl) (x_lss rfl rfl) rfl rfl fun a_17 HE18 => ?_
    refine wpList_nil ?_
    clear a_6 HE7 HH1 a_8 HE9 a_11 HE12 a_13 HE14 a_15 HE16
    refine nrm ?_
    refine cnd_d HE18 rfl (fun hc22 => ?_) (fun hc22 => ?_)
    · refine wp_skip ?_
      refine nrm ?_
      refine wp_seq ?_
      refine wp_block ?_
      refine wp_seq ?_
      refine dr_start (Held Nob w []) 24 #[false, false, false, false, false, false, false, false, false, false, false, false, false, false, false, false, false, false, false, false, false, false, false, false] hmix rfl rfl HH10 (fun _ h => h.sel [] (by decide) rfl) fun w' HH19 => ?_
      have HS20 := HH19
      refine dr_take (i := 0) (ls' := #[true, false, false, false, false, false, false, false, false, false, false, false, false, false, false, false, false, false, false, false, false, false, false, false]) HE18 HS20 rfl (by kernel_rfl) (by kernel_rfl) (by kernel_rfl) (fun _ _ _ h => h) rfl (wt0 rfl) (x_move rfl) rfl rfl fun a_21 HE22 => ?_
      refine dr_take (i := 1) (ls' := #[true, true, false, false, false, false, false, false, false, false, false, false, false, false, false, false, false, false, false, false, false, false, false, false]) HE22 HS20 rfl (by kernel_rfl) (by kernel_rfl) (by kernel_rfl) (fun _ _ _ h => h) rfl (wt0 rfl) (x_move rfl) rfl rfl fun a_23 HE24 => ?_
      have ke23 : k < a0.length := by omega
      obtain ⟨be23, fe23, ese23, Ae23, Re23, De23⟩ := el_old h0 ke23
      obtain ⟨e23, xe23⟩ : ∃ x, x = a0[k] := ⟨_, rfl⟩
      rw [← xe23] at Re23
      have Qe23 := Re23
      obtain ⟨rfl, ie23⟩ := Re23
      have je23 := ie23; unfold I64 at je23
      have ge23 : a0[k]?.getD 0 = e23 := by rw [List.getElem?_eq_getElem ke23, xe23]; rfl
      refine dr_take (i := 2) (ls' := #[true, true, true, false, false, false, false, false, false, false, false, false, false, false, false, false, false, false, false, false, false, false, false, false]) HE24 HS20 rfl (by kernel_rfl) (by kernel_rfl) (by kernel_rfl) (fun _ _ _ h => h) rfl (wt0 rfl) (x_indexAddr ts_31 rfl rfl Ae23 rfl ke23) rfl rfl fun a_25 HE26 => ?_
      refine dr_take (i := 3) (ls' := #[true, true, true, true, false, false, false, false, false, false, false, false, false, false, false, false, false, false, false, false, false, false, false, false]) HE26 HS20 rfl (by kernel_rfl) (by kernel_rfl) (by kernel_rfl) (fun _ _ _ h => h) rfl (wt0 rfl) (x_load1 tv_2 rfl (c_old (De23 0 _ rfl))) rfl rfl fun a_27 HE28 => ?_
      refine dr_take (i := 4) (ls' := #[true, true, true, true, true, false, false, false, false, false, false, false, false, false, false, false, false, false, false, false, false, false, false, false]) HE28 HS20 rfl (by kernel_rfl) (by kernel_rfl) (by kernel_rfl) (fun _ _ _ h => h) rfl (wt0 rfl) (x_move rfl) rfl rfl fun a_29 HE30 => ?_
      refine dr_take (i := 5) (ls' := #[true, true, true, true, true, true, false, false, false, false, false, false, false, false, false, false, false, false, false, false, false, false, false, false]) HE30 HS20 rfl (by kernel_rfl) (by kernel_rfl) (by kernel_rfl) (fun _ _ _ h => h) rfl (wt0 rfl) (x_move rfl) rfl rfl fun a_31 HE32 => ?_
      refine dr_one (i := 6) (ls' := #[true, true, true, true, true, true, true, false, false, false, false, false, false, false, false, false, false, false, false, false, false, false, false, false]) rfl (by kernel_rfl) rfl fun K_33 hK34 => ?_
      refine st_call HE32 (wt0 rfl) rfl rfl rfl en_67 rfl rfl (spec_l00In e23 a1 a2 _ ) fun e w' hr => ?_
      obtain ⟨rfl, rfl⟩ := hr
      refine ⟨_, rfl, fun a_35 HE36 => hK34 _ _ (by exact HH19.sel [] (by decide) rfl) ?_⟩
      have HS37 := HH19.sel [] (by decide) rfl
      refine dr_take (i := 7) (ls' := #[true, true, true, true, true, true, true, true, false, false, false, false, false, false, false, false, false, false, false, false, false, false, false, false]) HE36 HS37 rfl (by kernel_rfl) (by kernel_rfl) (by kernel_rfl) (fun _ _ _ h => h) rfl (wt0 rfl) (x_not rfl) rfl rfl fun a_38 HE39 => ?_
      refine dr_take (i := 8) (ls' := #[true, true, true, true, true, true, true, true, true, false, false, false, false, false, false, false, false, false, false, false, false, false, false, false]) HE39 HS37 rfl (by kernel_rfl) (by kernel_rfl) (by kernel_rfl) (fun _ _ _ h => h) rfl (wt0 rfl) (x_move rfl) rfl rfl fun a_40 HE41 => ?_
      rcases Bool.eq_false_or_eq_true ((withinB e23 a1 a2)) with hc25 | hc25
      · refine dr_take (i := 9) (ls' := #[true, true, true, true, true, true, true, true, true, true, false, false, false, false, false, false, false, false, false, false, false, false, false, false]) HE41 HS37 rfl (by kernel_rfl) (by kernel_rfl) (by kernel_rfl) (fun _ _ _ h => h) rfl (wtT HE41 rfl rfl rfl (not_f hc25)) (x_move rfl) rfl rfl fun a_42 HE43 => ?_
        refine dr_take (i := 10) (ls' := #[true, true, true, true, true, true, true, true, true, true, true, false, false, false, false, false, false, false, false, false, false, false, false, false]) HE43 HS37 rfl (by kernel_rfl) (by kernel_rfl) (by kernel_rfl) (fun _ _ _ h => h) rfl (wtT HE43 rfl rfl rfl (not_f hc25)) (x_gtr rfl rfl) rfl rfl fun a_44 HE45 => ?_
        refine dr_take (i := 11) (ls' := #[true, true, true, true, true, true, true, true, true, true, true, true, false, false, false, false, false, false, false, false, false, false, false, false]) HE45 HS37 rfl (by kernel_rfl) (by kernel_rfl) (by kernel_rfl) (fun _ _ _ h => h) rfl (wtT HE45 rfl rfl rfl (not_f hc25)) (x_move rfl) rfl rfl fun a_46 HE47 => ?_
        by_cases hc26 : 0 < (k : Int)
        · refine dr_take (i := 12) (ls' := #[true, true, true, true, true, true, true, true, true, true, true, true, true, false, false, false, false, false, false, false, false, false, false, false]) HE47 HS37 rfl (by kernel_rfl) (by kernel_rfl) (by kernel_rfl) (fun _ _ _ h => h) rfl (wtT HE47 rfl rfl rfl (decide_eq_true hc26)) (x_move rfl) rfl rfl fun a_48 HE49 => ?_
          refine dr_take (i := 13) (ls' := #[true, true, true, true, true, true, true, true, true, true, true, true, true, true, false, false, false, false, false, false, false, false, false, false]) HE49 HS37 rfl (by kernel_rfl) (by kernel_rfl) (by kernel_rfl) (fun _ _ _ h => h) rfl (wtT HE49 rfl rfl rfl (decide_eq_true hc26)) (x_move rfl) rfl rfl fun a_50 HE51 => ?_
          refine dr_take (i := 14) (ls' := #[true, true, true, true, true, true, true, true, true, true, true, true, true, true, true, false, false, false, false, false, false, false, false, false]) HE51 HS37 rfl (by kernel_rfl) (by kernel_rfl) (by kernel_rfl) (fun _ _ _ h => h) rfl (wtT HE51 rfl rfl rfl (decide_eq_true hc26)) (x_sub rfl rfl (by exact ⟨by omega, by omega⟩)) rfl rfl fun a_52 HE53 => ?_
          have ke27 : (k - 1) < a0.length := by omega
          obtain ⟨be27, fe27, ese27, Ae27, Re27, De27⟩ := el_old h0 ke27
          obtain ⟨e27, xe27⟩ : ∃ x, x = a0[(k - 1)] := ⟨_, rfl⟩
          rw [← xe27] at Re27
          have Qe27 := Re27
          obtain ⟨rfl, ie27⟩ := Re27
          have je27 := ie27; unfold I64 at je27
          have ge27 : a0[(k - 1)]?.getD 0 = e27 := by rw [List.getElem?_eq_getElem ke27, xe27]; rfl
          refine dr_take (i := 15) (ls' := #[true, true, true, true, true, true, true, true, true, true, true, true, true, true, true, true, false, false, false, false, false, false, false, false]) HE53 HS37 rfl (by kernel_rfl) (by kernel_rfl) (by kernel_rfl) (fun _ _ _ h => h) rfl (wtT HE53 rfl rfl rfl (decide_eq_true hc26)) (x_indexAddr ts_31 rfl rfl Ae27 (by omega) ke27) rfl rfl fun a_54 HE55 => ?_
          refine dr_take (i := 16) (ls' := #[true, true, true, true, true, true, true, true, true, true, true, true, true, true, true, true, true, false, false, false, false, false, false, false]) HE55 HS37 rfl (by kernel_rfl) (by kernel_rfl) (by kernel_rfl) (fun _ _ _ h => h) rfl (wtT HE55 rfl rfl rfl (decide_eq_true hc26)) (x_load1 tv_2 rfl (c_old (De27 0 _ rfl))) rfl rfl fun a_56 HE57 => ?_
          refine dr_take (i := 17) (ls' := #[true, true, true, true, true, true, true, true, true, true, true, true, true, true, true, true, true, true, false, false, false, false, false, false]) HE57 HS37 rfl (by kernel_rfl) (by kernel_rfl) (by kernel_rfl) (fun _ _ _ h => h) rfl (wtT HE57 rfl rfl rfl (decide_eq_true hc26)) (x_move rfl) rfl rfl fun a_58 HE59 => ?_
          refine dr_take (i := 18) (ls' := #[true, true, true, true, true, true, true, true, true, true, true, true, true, true, true, true, true, true, true, false, false, false, false, false]) HE59 HS37 rfl (by kernel_rfl) (by kernel_rfl) (by kernel_rfl) (fun _ _ _ h => h) rfl (wtT HE59 rfl rfl rfl (decide_eq_true hc26)) (x_move rfl) rfl rfl fun a_60 HE61 => ?_
          refine dr_take (i := 19) (ls' := #[true, true, true, true, true, true, true, true, true, true, true, true, true, true, true, true, true, true, true, true, false, false, false, false]) HE61 HS37 rfl (by kernel_rfl) (by kernel_rfl) (by kernel_rfl) (fun _ _ _ h => h) rfl (wtT HE61 rfl rfl rfl (decide_eq_true hc26)) (x_indexAddr ts_31 rfl rfl Ae23 rfl ke23) rfl rfl fun a_62 HE63 => ?_
          refine dr_take (i := 20) (ls' := #[true, true, true, true, true, true, true, true, true, true, true, true, true, true, true, true, true, true, true, true, true, false, false, false]) HE63 HS37 rfl (by kernel_rfl) (by kernel_rfl) (by kernel_rfl) (fun _ _ _ h => h) rfl (wtT HE63 rfl rfl rfl (decide_eq_true hc26)) (x_load1 tv_2 rfl (c_old (De23 0 _ rfl))) rfl rfl fun a_64 HE65 => ?_
          refine dr_take (i := 21) (ls' := #[true, true, true, true, true, true, true, true, true, true, true, true, true, true, true, true, true, true, true, true, true, true, false, false]) HE65 HS37 rfl (by kernel_rfl) (by kernel_rfl) (by kernel_rfl) (fun _ _ _ h => h) rfl (wtT HE65 rfl rfl rfl (decide_eq_true hc26)) (x_geq rfl rfl) rfl rfl fun a_66 HE67 => ?_
          refine dr_take (i := 22) (ls' := #[true, true, true, true, true, true, true, true, true, true, true, true, true, true, true, true, true, true, true, true, true, true, true, false]) HE67 HS37 rfl (by kernel_rfl) (by kernel_rfl) (by kernel_rfl) (fun _ _ _ h => h) rfl (wtT HE67 rfl rfl rfl (not_f hc25)) (x_pickT rfl (decide_eq_true hc26) rfl) rfl rfl fun a_68 HE69 => ?_
          refine dr_take (i := 23) (ls' := #[true, true, true, true, true, true, true, true, true, true, true, true, true, true, true, true, true, true, true, true, true, true, true, true]) HE69 HS37 rfl (by kernel_rfl) (by kernel_rfl) (by kernel_rfl) (fun _ _ _ h => h) rfl (wt0 rfl) (x_pickF rfl (not_f hc25) rfl) rfl rfl fun a_70 HE71 => ?_
          refine dr_done (by kernel_rfl) ?_
          clear HH10 a_17 HE18 a_21 HE22 a_23 HE24 a_25 HE26 a_27 HE28 a_29 HE30 a_31 HE32 HS20 a_35 HE36 a_38 HE39 a_40 HE41 a_42 HE43 a_44 HE45 a_46 HE47 a_48 HE49 a_50 HE51 a_52 HE53 a_54 HE55 a_56 HE57 a_58 HE59 a_60 HE61 a_62 HE63 a_64 HE65 a_66 HE67 a_68 HE69 hK34 K_33
          refine nrm ?_
          refine cnd_d HE71 rfl (fun hc28 => ?_) (fun hc28 => ?_)
          · refine wp_seq ?_
            refine rg ?_
            refine pl_x HE71 HH19 (wt0 rfl) (x_assign rfl) rfl rfl fun a_72 HE73 => ?_
            refine wpList_nil ?_
            clear a_70 HE71
            refine nrm ?_
            refine wp_ret ?_
            refine (blk_ret (thn_ret (thn_ret (blk_ret (thn_ret ?_)))))
            refine ret1 HE73 rfl (rv_tmp rfl) ?_
            have hF : (risesB a0 a1 a2) = false := by
              first | exact risesB_hit (by omega : k < a0.length) (by unfold badRs; grind) | exact risesB_all (by have hq := p21_1; rwa [show k = a0.length from by omega] at hq)
            exact ⟨by rw [hF] <;> rfl, HH19.below⟩
          · refine wp_skip ?_
            refine blk_n ?_
            refine nrm ?_
            refine rg ?_
            refine pl_x HE71 HH19 (wt0 rfl) (x_move rfl) rfl rfl fun a_74 HE75 => ?_
            refine pl_x HE75 HH19 (wt0 rfl) (x_add rfl rfl (by exact ⟨by omega, by omega⟩)) rfl rfl fun a_76 HE77 => ?_
            refine pl_x HE77 HH19 (wt0 rfl) (x_assign rfl) rfl rfl fun a_78 HE79 => ?_
            refine wpList_nil ?_
            clear a_70 HE71 a_74 HE75 a_76 HE77
            exact nrm ⟨a0.length - (k + 1), (by omega), k + 1, rfl, HE79.sub ⟨(lkI rfl (by first | rfl | omega | (simp [p21_0, p21_1, hc22, xe23, hc25, hc26, xe27, hc28]; done))), rfl, rfl, rfl, trivial⟩, (HH19.sel [] (by decide) rfl), (by first | omega | assumption | (simp; done) | simp_all), (by exact rg_step p21_1 (by unfold badRs; grind))⟩
        · refine dr_takeNo (i := 12) (ls' := #[true, true, true, true, true, true, true, true, true, true, true, true, true, false, false, false, false, false, false, false, false, false, false, false]) HE47 HS37 rfl (by kernel_rfl) (by kernel_rfl) (by kernel_rfl) (fun _ _ _ h => h) rfl (wtF HE47 rfl rfl rfl (decide_eq_false hc26)) rfl rfl fun a_80 HE81 => ?_
          refine dr_takeNo (i := 13) (ls' := #[true, true, true, true, true, true, true, true, true, true, true, true, true, true, false, false, false, false, false, false, false, false, false, false]) HE81 HS37 rfl (by kernel_rfl) (by kernel_rfl) (by kernel_rfl) (fun _ _ _ h => h) rfl (wtF HE81 rfl rfl rfl (decide_eq_false hc26)) rfl rfl fun a_82 HE83 => ?_
          refine dr_takeNo (i := 14) (ls' := #[true, true, true, true, true, true, true, true, true, true, true, true, true, true, true, false, false, false, false, false, false, false, false, false]) HE83 HS37 rfl (by kernel_rfl) (by kernel_rfl) (by kernel_rfl) (fun _ _ _ h => h) rfl (wtF HE83 rfl rfl rfl (decide_eq_false hc26)) rfl rfl fun a_84 HE85 => ?_
          refine dr_takeNo (i := 15) (ls' := #[true, true, true, true, true, true, true, true, true, true, true, true, true, true, true, true, false, false, false, false, false, false, false, false]) HE85 HS37 rfl (by kernel_rfl) (by kernel_rfl) (by kernel_rfl) (fun _ _ _ h => h) rfl (wtF HE85 rfl rfl rfl (decide_eq_false hc26)) rfl rfl fun a_86 HE87 => ?_
          refine dr_takeNo (i := 16) (ls' := #[true, true, true, true, true, true, true, true, true, true, true, true, true, true, true, true, true, false, false, false, false, false, false, false]) HE87 HS37 rfl (by kernel_rfl) (by kernel_rfl) (by kernel_rfl) (fun _ _ _ h => h) rfl (wtF HE87 rfl rfl rfl (decide_eq_false hc26)) rfl rfl fun a_88 HE89 => ?_
          refine dr_takeNo (i := 17) (ls' := #[true, true, true, true, true, true, true, true, true, true, true, true, true, true, true, true, true, true, false, false, false, false, false, false]) HE89 HS37 rfl (by kernel_rfl) (by kernel_rfl) (by kernel_rfl) (fun _ _ _ h => h) rfl (wtF HE89 rfl rfl rfl (decide_eq_false hc26)) rfl rfl fun a_90 HE91 => ?_
          refine dr_takeNo (i := 18) (ls' := #[true, true, true, true, true, true, true, true, true, true, true, true, true, true, true, true, true, true, true, false, false, false, false, false]) HE91 HS37 rfl (by kernel_rfl) (by kernel_rfl) (by kernel_rfl) (fun _ _ _ h => h) rfl (wtF HE91 rfl rfl rfl (decide_eq_false hc26)) rfl rfl fun a_92 HE93 => ?_
          refine dr_takeNo (i := 19) (ls' := #[true, true, true, true, true, true, true, true, true, true, true, true, true, true, true, true, true, true, true, true, false, false, false, false]) HE93 HS37 rfl (by kernel_rfl) (by kernel_rfl) (by kernel_rfl) (fun _ _ _ h => h) rfl (wtF HE93 rfl rfl rfl (decide_eq_false hc26)) rfl rfl fun a_94 HE95 => ?_
          refine dr_takeNo (i := 20) (ls' := #[true, true, true, true, true, true, true, true, true, true, true, true, true, true, true, true, true, true, true, true, true, false, false, false]) HE95 HS37 rfl (by kernel_rfl) (by kernel_rfl) (by kernel_rfl) (fun _ _ _ h => h) rfl (wtF HE95 rfl rfl rfl (decide_eq_false hc26)) rfl rfl fun a_96 HE97 => ?_
          refine dr_takeNo (i := 21) (ls' := #[true, true, true, true, true, true, true, true, true, true, true, true, true, true, true, true, true, true, true, true, true, true, false, false]) HE97 HS37 rfl (by kernel_rfl) (by kernel_rfl) (by kernel_rfl) (fun _ _ _ h => h) rfl (wtF HE97 rfl rfl rfl (decide_eq_false hc26)) rfl rfl fun a_98 HE99 => ?_
          refine dr_take (i := 22) (ls' := #[true, true, true, true, true, true, true, true, true, true, true, true, true, true, true, true, true, true, true, true, true, true, true, false]) HE99 HS37 rfl (by kernel_rfl) (by kernel_rfl) (by kernel_rfl) (fun _ _ _ h => h) rfl (wtT HE99 rfl rfl rfl (not_f hc25)) (x_pickF rfl (decide_eq_false hc26) rfl) rfl rfl fun a_100 HE101 => ?_
          refine dr_take (i := 23) (ls' := #[true, true, true, true, true, true, true, true, true, true, true, true, true, true, true, true, true, true, true, true, true, true, true, true]) HE101 HS37 rfl (by kernel_rfl) (by kernel_rfl) (by kernel_rfl) (fun _ _ _ h => h) rfl (wt0 rfl) (x_pickF rfl (not_f hc25) rfl) rfl rfl fun a_102 HE103 => ?_
          refine dr_done (by kernel_rfl) ?_
          clear HH10 a_17 HE18 a_21 HE22 a_23 HE24 a_25 HE26 a_27 HE28 a_29 HE30 a_31 HE32 HS20 a_35 HE36 a_38 HE39 a_40 HE41 a_42 HE43 a_44 HE45 a_46 HE47 a_80 HE81 a_82 HE83 a_84 HE85 a_86 HE87 a_88 HE89 a_90 HE91 a_92 HE93 a_94 HE95 a_96 HE97 a_98 HE99 a_100 HE101 hK34 K_33
          refine nrm ?_
          refine cndF HE103 rfl rfl ?_
          refine wp_skip ?_
          refine blk_n ?_
          refine nrm ?_
          refine rg ?_
          refine pl_x HE103 HH19 (wt0 rfl) (x_move rfl) rfl rfl fun a_104 HE105 => ?_
          refine pl_x HE105 HH19 (wt0 rfl) (x_add rfl rfl (by exact ⟨by omega, by omega⟩)) rfl rfl fun a_106 HE107 => ?_
          refine pl_x HE107 HH19 (wt0 rfl) (x_assign rfl) rfl rfl fun a_108 HE109 => ?_
          refine wpList_nil ?_
          clear a_102 HE103 a_104 HE105 a_106 HE107
          exact nrm ⟨a0.length - (k + 1), (by omega), k + 1, rfl, HE109.sub ⟨(lkI rfl (by first | rfl | omega | (simp [p21_0, p21_1, hc22, xe23, hc25, hc26]; done))), rfl, rfl, rfl, trivial⟩, (HH19.sel [] (by decide) rfl), (by first | omega | assumption | (simp; done) | simp_all), (by exact rg_step p21_1 (by unfold badRs; grind))⟩
      · refine dr_takeNo (i := 9) (ls' := #[true, true, true, true, true, true, true, true, true, true, false, false, false, false, false, false, false, false, false, false, false, false, false, false]) HE41 HS37 rfl (by kernel_rfl) (by kernel_rfl) (by kernel_rfl) (fun _ _ _ h => h) rfl (wtF HE41 rfl rfl rfl (not_t hc25)) rfl rfl fun a_110 HE111 => ?_
        refine dr_takeNo (i := 10) (ls' := #[true, true, true, true, true, true, true, true, true, true, true, false, false, false, false, false, false, false, false, false, false, false, false, false]) HE111 HS37 rfl (by kernel_rfl) (by kernel_rfl) (by kernel_rfl) (fun _ _ _ h => h) rfl (wtF HE111 rfl rfl rfl (not_t hc25)) rfl rfl fun a_112 HE113 => ?_
        refine dr_takeNo (i := 11) (ls' := #[true, true, true, true, true, true, true, true, true, true, true, true, false, false, false, false, false, false, false, false, false, false, false, false]) HE113 HS37 rfl (by kernel_rfl) (by kernel_rfl) (by kernel_rfl) (fun _ _ _ h => h) rfl (wtF HE113 rfl rfl rfl (not_t hc25)) rfl rfl fun a_114 HE115 => ?_
        refine dr_takeNo (i := 12) (ls' := #[true, true, true, true, true, true, true, true, true, true, true, true, true, false, false, false, false, false, false, false, false, false, false, false]) HE115 HS37 rfl (by kernel_rfl) (by kernel_rfl) (by kernel_rfl) (fun _ _ _ h => h) rfl (wtU HE115 rfl rfl rfl) rfl rfl fun a_116 HE117 => ?_
        refine dr_takeNo (i := 13) (ls' := #[true, true, true, true, true, true, true, true, true, true, true, true, true, true, false, false, false, false, false, false, false, false, false, false]) HE117 HS37 rfl (by kernel_rfl) (by kernel_rfl) (by kernel_rfl) (fun _ _ _ h => h) rfl (wtU HE117 rfl rfl rfl) rfl rfl fun a_118 HE119 => ?_
        refine dr_takeNo (i := 14) (ls' := #[true, true, true, true, true, true, true, true, true, true, true, true, true, true, true, false, false, false, false, false, false, false, false, false]) HE119 HS37 rfl (by kernel_rfl) (by kernel_rfl) (by kernel_rfl) (fun _ _ _ h => h) rfl (wtU HE119 rfl rfl rfl) rfl rfl fun a_120 HE121 => ?_
        refine dr_takeNo (i := 15) (ls' := #[true, true, true, true, true, true, true, true, true, true, true, true, true, true, true, true, false, false, false, false, false, false, false, false]) HE121 HS37 rfl (by kernel_rfl) (by kernel_rfl) (by kernel_rfl) (fun _ _ _ h => h) rfl (wtU HE121 rfl rfl rfl) rfl rfl fun a_122 HE123 => ?_
        refine dr_takeNo (i := 16) (ls' := #[true, true, true, true, true, true, true, true, true, true, true, true, true, true, true, true, true, false, false, false, false, false, false, false]) HE123 HS37 rfl (by kernel_rfl) (by kernel_rfl) (by kernel_rfl) (fun _ _ _ h => h) rfl (wtU HE123 rfl rfl rfl) rfl rfl fun a_124 HE125 => ?_
        refine dr_takeNo (i := 17) (ls' := #[true, true, true, true, true, true, true, true, true, true, true, true, true, true, true, true, true, true, false, false, false, false, false, false]) HE125 HS37 rfl (by kernel_rfl) (by kernel_rfl) (by kernel_rfl) (fun _ _ _ h => h) rfl (wtU HE125 rfl rfl rfl) rfl rfl fun a_126 HE127 => ?_
        refine dr_takeNo (i := 18) (ls' := #[true, true, true, true, true, true, true, true, true, true, true, true, true, true, true, true, true, true, true, false, false, false, false, false]) HE127 HS37 rfl (by kernel_rfl) (by kernel_rfl) (by kernel_rfl) (fun _ _ _ h => h) rfl (wtU HE127 rfl rfl rfl) rfl rfl fun a_128 HE129 => ?_
        refine dr_takeNo (i := 19) (ls' := #[true, true, true, true, true, true, true, true, true, true, true, true, true, true, true, true, true, true, true, true, false, false, false, false]) HE129 HS37 rfl (by kernel_rfl) (by kernel_rfl) (by kernel_rfl) (fun _ _ _ h => h) rfl (wtU HE129 rfl rfl rfl) rfl rfl fun a_130 HE131 => ?_
        refine dr_takeNo (i := 20) (ls' := #[true, true, true, true, true, true, true, true, true, true, true, true, true, true, true, true, true, true, true, true, true, false, false, false]) HE131 HS37 rfl (by kernel_rfl) (by kernel_rfl) (by kernel_rfl) (fun _ _ _ h => h) rfl (wtU HE131 rfl rfl rfl) rfl rfl fun a_132 HE133 => ?_
        refine dr_takeNo (i := 21) (ls' := #[true, true, true, true, true, true, true, true, true, true, true, true, true, true, true, true, true, true, true, true, true, true, false, false]) HE133 HS37 rfl (by kernel_rfl) (by kernel_rfl) (by kernel_rfl) (fun _ _ _ h => h) rfl (wtU HE133 rfl rfl rfl) rfl rfl fun a_134 HE135 => ?_
        refine dr_takeNo (i := 22) (ls' := #[true, true, true, true, true, true, true, true, true, true, true, true, true, true, true, true, true, true, true, true, true, true, true, false]) HE135 HS37 rfl (by kernel_rfl) (by kernel_rfl) (by kernel_rfl) (fun _ _ _ h => h) rfl (wtF HE135 rfl rfl rfl (not_t hc25)) rfl rfl fun a_136 HE137 => ?_
        refine dr_take (i := 23) (ls' := #[true, true, true, true, true, true, true, true, true, true, true, true, true, true, true, true, true, true, true, true, true, true, true, true]) HE137 HS37 rfl (by kernel_rfl) (by kernel_rfl) (by kernel_rfl) (fun _ _ _ h => h) rfl (wt0 rfl) (x_pickT rfl (not_t hc25) rfl) rfl rfl fun a_138 HE139 => ?_
        refine dr_done (by kernel_rfl) ?_
        clear HH10 a_17 HE18 a_21 HE22 a_23 HE24 a_25 HE26 a_27 HE28 a_29 HE30 a_31 HE32 HS20 a_35 HE36 a_38 HE39 a_40 HE41 a_110 HE111 a_112 HE113 a_114 HE115 a_116 HE117 a_118 HE119 a_120 HE121 a_122 HE123 a_124 HE125 a_126 HE127 a_128 HE129 a_130 HE131 a_132 HE133 a_134 HE135 a_136 HE137 hK34 K_33
        refine nrm ?_
        refine cndT HE139 rfl rfl ?_
        refine wp_seq ?_
        refine rg ?_
        refine pl_x HE139 HH19 (wt0 rfl) (x_assign rfl) rfl rfl fun a_140 HE141 => ?_
        refine wpList_nil ?_
        clear a_138 HE139
        refine nrm ?_
        refine wp_ret ?_
        refine (blk_ret (thn_ret (thn_ret (blk_ret (thn_ret ?_)))))
        refine ret1 HE141 rfl (rv_tmp rfl) ?_
        have hF : (risesB a0 a1 a2) = false := by
          first | exact risesB_hit (by omega : k < a0.length) (by unfold badRs; grind) | exact risesB_all (by have hq := p21_1; rwa [show k = a0.length from by omega] at hq)
        exact ⟨by rw [hF] <;> rfl, HH19.below⟩
    · refine wp_exit ?_
      refine (thn_exit (thn_exit (blk_hit ?_)))
      refine nrm ?_
      refine wp_seq ?_
      refine rg ?_
      refine pl_x HE18 HH10 (wt0 rfl) (x_assign rfl) rfl rfl fun a_142 HE143 => ?_
      refine wpList_nil ?_
      clear a_17 HE18
      refine nrm ?_
      refine wp_ret ?_
      refine ret1 HE143 rfl (rv_tmp rfl) ?_
      have hF : (risesB a0 a1 a2) = true := by
        first | exact risesB_hit (by omega : k < a0.length) (by unfold badRs; grind) | exact risesB_all (by have hq := p21_1; rwa [show k = a0.length from by omega] at hq)
      exact ⟨by rw [hF] <;> rfl, HH10.below⟩

set_option maxRecDepth 100000 in
set_option maxHeartbeats 4000000 in
theorem impl_ExponentsAt1 (a0 : Int) (w : World) (s0 : -1000 ≤ a0 ∧ a0 ≤ 999999) :
    Calls Try.prog 104 #[.int .i64 a0] w fun e w' => e = .returned (.bool (notP a0)) ∧ Below w.heap.size w w' := by
  have HH1 := Held.start Nob w
  refine enter (n := 6) Try.func104 rfl rfl rfl fun a_2 HE3 => ?_
  refine wp_seq ?_
  refine rg ?_
  refine pl_x HE3 HH1 (wt0 rfl) (x_assign rfl) rfl rfl fun a_4 HE5 => ?_
  refine wpList_nil ?_
  clear a_2 HE3
  refine nrm ?_
  refine wp_seq ?_
  refine rg ?_
  refine pl_x HE5 HH1 (wt0 rfl) (x_move rfl) rfl rfl fun a_6 HE7 => ?_
  refine pl fun K_8 hK9 => ?_
  refine st_call HE7 (wt0 rfl) rfl rfl rfl en_105 rfl rfl (impl_isPrime a0 _ (by omega)) fun e w' hr => ?_
  obtain ⟨rfl, hbr21⟩ := hr
  have HH10 := HH1.on hbr21
  refine ⟨_, rfl, fun a_11 HE12 => hK9 _ _ ?_⟩
  refine pl_x HE12 HH10 (wt0 rfl) (x_not rfl) rfl rfl fun a_13 HE14 => ?_
  refine pl_x HE14 HH10 (wt0 rfl) (x_assign rfl) rfl rfl fun a_15 HE16 => ?_
  refine wpList_nil ?_
  clear a_4 HE5 HH1 a_6 HE7 a_11 HE12 a_13 HE14 hK9 K_8
  refine nrm ?_
  refine wp_ret ?_
  refine ret1 HE16 rfl (rv_tmp rfl) ?_
  have hF : (notP a0) = !(primeB a0) := by
    first | rfl | (simp [notP]; done) | (simp [notP]; omega) | grind [notP]
  exact ⟨by rw [hF] <;> rfl, HH10.below⟩

set_option maxRecDepth 100000 in
set_option maxHeartbeats 4000000 in
theorem impl_ExponentsAt (A0 : Option Addr) (c0 : Nat) (a0 : (List Int)) (A1 : Option Addr) (c1 : Nat) (a1 : (List Int)) (w : World) (h0 : Sl eInt w (Old w) A0 c0 a0) (h1 : Sl eInt w (Old w) A1 c1 a1) :
    Calls Try.prog 45 #[.slice A0 a0.length c0, .slice A1 a1.length c1] w fun e w' => ∃ (A0' : Option Addr) (c0' : Nat) (S0' : Nat → Prop) (A1' : Option Addr) (c1' : Nat) (S1' : Nat → Prop), e = .returned (.tuple #[.slice A0' (expsAt a0 a1).1.length c0', .slice A1' (expsAt a0 a1).2.1.length c1', .int .i64 (expsAt a0 a1).2.2]) ∧ Held Nob w [rSo eInt S0' A0' c0' (expsAt a0 a1).1, rSo eInt S1' A1' c1' (expsAt a0 a1).2.1] w' := by
  have l0 := h0.len
  have l1 := h1.len
  have HH1 := Held.start Nob w
  refine enter (n := 65) Try.func45 rfl rfl rfl fun a_2 HE3 => ?_
  refine wp_seq ?_
  refine rg ?_
  refine pl_x HE3 HH1 (wt0 rfl) (x_assign rfl) rfl rfl fun a_4 HE5 => ?_
  refine pl_x HE5 HH1 (wt0 rfl) (x_assign rfl) rfl rfl fun a_6 HE7 => ?_
  refine pl_x HE7 HH1 (wt0 rfl) (x_assign rfl) rfl rfl fun a_8 HE9 => ?_
  refine wpList_nil ?_
  clear a_2 HE3 a_4 HE5 a_6 HE7
  refine nrm ?_
  refine wp_seq ?_
  refine wp_seq ?_
  refine rg ?_
  refine pl_x HE9 HH1 (wt0 rfl) (x_move rfl) rfl rfl fun a_10 HE11 => ?_
  refine pl fun K_12 hK13 => ?_
  refine st_call HE11 (wt0 rfl) rfl rfl rfl en_101 rfl rfl (impl_isPositive _ _ a0 _ (HH1.old h0)) fun e w' hr => ?_
  obtain ⟨rfl, rfl⟩ := hr
  refine ⟨_, rfl, fun a_14 HE15 => hK13 _ _ ?_⟩
  refine pl_x HE15 HH1 (wt0 rfl) (x_not rfl) rfl rfl fun a_16 HE17 => ?_
  refine wpList_nil ?_
  clear a_8 HE9 a_10 HE11 a_14 HE15 hK13 K_12
  refine nrm ?_
  refine cnd_nb HE17 rfl (fun hc22 => ?_) (fun hc22 => ?_)
  · refine wp_seq ?_
    refine rg ?_
    refine pl_x HE17 HH1 (wt0 rfl) (x_assign rfl) rfl rfl fun a_18 HE19 => ?_
    refine pl_x HE19 HH1 (wt0 rfl) (x_assign rfl) rfl rfl fun a_20 HE21 => ?_
    refine pl_x HE21 HH1 (wt0 rfl) (x_assign rfl) rfl rfl fun a_22 HE23 => ?_
    refine wpList_nil ?_
    clear a_16 HE17 a_18 HE19 a_20 HE21
    refine nrm ?_
    refine wp_ret ?_
    refine (thn_ret ?_)
    refine ret3 HE23 rfl (rv_tmp rfl) (rv_tmp rfl) (rv_tmp rfl) ?_
    have HH24 := HH1.vecNil eInt 2
    have HH25 := HH24.vecSo
    have HH26 := HH25.vecNil eInt 2
    have HH27 := HH26.vecSo
    have hF : (expsAt a0 a1) = ([], [], 1) := by
      first | (simp [expsAt, hc22]; done) | (unfold expsAt; rw [if_pos ‹_›, if_neg (by unfold risesB; grind)]; done) | (unfold expsAt; rw [if_pos ‹_›, if_pos (by unfold risesB; grind), show a1.take k = a1 from List.take_of_length_le (by omega)])
    exact ⟨_, _, _, _, _, _, by rw [hF] <;> rfl, by rw [hF]; exact HH27.sel [1, 0] (by decide) rfl⟩
  · have hP := isPos_facts hc22
    have hP2 := isPos_NatP hc22
    refine wp_skip ?_
    refine nrm ?_
    refine wp_seq ?_
    refine wp_seq ?_
    refine rg ?_
    refine pl_x HE17 HH1 (wt0 rfl) (x_move rfl) rfl rfl fun a_28 HE29 => ?_
    refine pl_x HE29 HH1 (wt0 rfl) (x_len Try.underlying31 rfl) rfl rfl fun a_30 HE31 => ?_
    refine pl_x HE31 HH1 (wt0 rfl) (x_gtr rfl rfl) rfl rfl fun a_32 HE33 => ?_
    refine pl_x HE33 HH1 (wt0 rfl) (x_move rfl) rfl rfl fun a_34 HE35 => ?_
    by_cases hc23 : 64 < (a1.length : Int)
    · refine pl_no HE35 (wtF HE35 rfl rfl rfl (decide_eq_true hc23)) rfl rfl fun a_36 HE37 => ?_
      refine pl_no HE37 (wtF HE37 rfl rfl rfl (decide_eq_true hc23)) rfl rfl fun a_38 HE39 => ?_
      refine pl_no HE39 (wtF HE39 rfl rfl rfl (decide_eq_true hc23)) rfl rfl fun a_40 HE41 => ?_
      refine pl_x HE41 HH1 (wt0 rfl) (x_pickT rfl (decide_eq_true hc23) rfl) rfl rfl fun a_42 HE43 => ?_
      refine pl_x HE43 HH1 (wt0 rfl) (x_move rfl) rfl rfl fun a_44 HE45 => ?_
      refine pl_no HE45 (wtF HE45 rfl rfl rfl rfl) rfl rfl fun a_46 HE47 => ?_
      refine pl_no HE47 (wtF HE47 rfl rfl rfl rfl) rfl rfl fun a_48 HE49 => ?_
      refine pl_no HE49 (wtF HE49 rfl rfl rfl rfl) rfl rfl fun a_50 HE51 => ?_
      refine pl_x HE51 HH1 (wt0 rfl) (x_pickT rfl rfl rfl) rfl rfl fun a_52 HE53 => ?_
      refine pl_x HE53 HH1 (wt0 rfl) (x_move rfl) rfl rfl fun a_54 HE55 => ?_
      refine pl_no HE55 (wtF HE55 rfl rfl rfl rfl) rfl rfl fun a_56 HE57 => ?_
      refine pl_no HE57 (wtF HE57 rfl rfl rfl rfl) rfl rfl fun a_58 HE59 => ?_
      refine pl_x HE59 HH1 (wt0 rfl) (x_pickT rfl rfl rfl) rfl rfl fun a_60 HE61 => ?_
      refine wpList_nil ?_
      clear a_16 HE17 a_28 HE29 a_30 HE31 a_32 HE33 a_34 HE35 a_36 HE37 a_38 HE39 a_40 HE41 a_42 HE43 a_44 HE45 a_46 HE47 a_48 HE49 a_50 HE51 a_52 HE53 a_54 HE55 a_56 HE57 a_58 HE59
      refine nrm ?_
      refine cndT HE61 rfl rfl ?_
      refine wp_seq ?_
      refine rg ?_
      refine pl_x HE61 HH1 (wt0 rfl) (x_assign rfl) rfl rfl fun a_62 HE63 => ?_
      refine pl_x HE63 HH1 (wt0 rfl) (x_assign rfl) rfl rfl fun a_64 HE65 => ?_
      refine pl_x HE65 HH1 (wt0 rfl) (x_assign rfl) rfl rfl fun a_66 HE67 => ?_
      refine wpList_nil ?_
      clear a_60 HE61 a_62 HE63 a_64 HE65
      refine nrm ?_
      refine wp_ret ?_
      refine (thn_ret ?_)
      refine ret3 HE67 rfl (rv_tmp rfl) (rv_tmp rfl) (rv_tmp rfl) ?_
      have HH68 := HH1.vecNil eInt 2
      have HH69 := HH68.vecSo
      have HH70 := HH69.vecNil eInt 2
      have HH71 := HH70.vecSo
      have hF : (expsAt a0 a1) = ([], [], 2) := by
        first | (simp [expsAt, hc22, hc23]; done) | (unfold expsAt; rw [if_pos ‹_›, if_neg (by unfold risesB; grind)]; done) | (unfold expsAt; rw [if_pos ‹_›, if_pos (by unfold risesB; grind), show a1.take k = a1 from List.take_of_length_le (by omega)])
      exact ⟨_, _, _, _, _, _, by rw [hF] <;> rfl, by rw [hF]; exact HH71.sel [1, 0] (by decide) rfl⟩
    · refine pl_x HE35 HH1 (wtT HE35 rfl rfl rfl (decide_eq_false hc23)) (x_move rfl) rfl rfl fun a_72 HE73 => ?_
      refine pl fun K_74 hK75 => ?_
      refine st_call HE73 (wtT HE73 rfl rfl rfl (decide_eq_false hc23)) rfl rfl rfl en_102 rfl rfl (impl_rising _ _ a1 _ (HH1.old h1)) fun e w' hr => ?_
      obtain ⟨rfl, hbr24⟩ := hr
      have HH76 := HH1.on hbr24
      refine ⟨_, rfl, fun a_77 HE78 => hK75 _ _ ?_⟩
      refine pl_x HE78 HH76 (wtT HE78 rfl rfl rfl (decide_eq_false hc23)) (x_not rfl) rfl rfl fun a_79 HE80 => ?_
      refine pl_x HE80 HH76 (wt0 rfl) (x_pickF rfl (decide_eq_false hc23) rfl) rfl rfl fun a_81 HE82 => ?_
      refine pl_x HE82 HH76 (wt0 rfl) (x_move rfl) rfl rfl fun a_83 HE84 => ?_
      rcases Bool.eq_false_or_eq_true ((risB a1)) with hc25 | hc25
      · refine pl_x HE84 HH76 (wtT HE84 rfl rfl rfl (not_f hc25)) (x_move rfl) rfl rfl fun a_85 HE86 => ?_
        refine pl fun K_87 hK88 => ?_
        refine st_call HE86 (wtT HE86 rfl rfl rfl (not_f hc25)) rfl rfl rfl en_88 rfl rfl (impl_allWithin _ _ a1 2 999999 _ (HH76.old h1)) fun e w' hr => ?_
        obtain ⟨rfl, rfl⟩ := hr
        refine ⟨_, rfl, fun a_89 HE90 => hK88 _ _ ?_⟩
        refine pl_x HE90 HH76 (wtT HE90 rfl rfl rfl (not_f hc25)) (x_not rfl) rfl rfl fun a_91 HE92 => ?_
        refine pl_x HE92 HH76 (wt0 rfl) (x_pickF rfl (not_f hc25) rfl) rfl rfl fun a_93 HE94 => ?_
        refine pl_x HE94 HH76 (wt0 rfl) (x_move rfl) rfl rfl fun a_95 HE96 => ?_
        rcases Bool.eq_false_or_eq_true ((allW a1 2 999999)) with hc27 | hc27
        · have hA := allW_mem hc27
          refine pl_x HE96 HH76 (wtT HE96 rfl rfl rfl (not_f hc27)) (x_move rfl) rfl rfl fun a_97 HE98 => ?_
          refine pl fun K_99 hK100 => ?_
          have hcl := ContainsFunc_Int64 notP 104 #[] _ _ a1 _ (HH76.old h1) en_104 (fun W x es hx hb hR => by obtain ⟨rfl, hI⟩ := hR; exact impl_ExponentsAt1 x  W  (by have := allW_mem ‹allW a1 2 999999 = true› x hx; omega))
          refine st_call HE98 (wtT HE98 rfl rfl rfl (not_f hc27)) rfl rfl rfl en_103 rfl rfl hcl fun e w' hr => ?_
          clear hcl
          obtain ⟨rfl, hbq⟩ := hr
          have HH101 := HH76.on hbq
          clear hbq
          refine ⟨_, rfl, fun a_102 HE103 => hK100 _ _ ?_⟩
          refine pl_x HE103 HH101 (wt0 rfl) (x_pickF rfl (not_f hc27) rfl) rfl rfl fun a_104 HE105 => ?_
          refine wpList_nil ?_
          clear a_16 HE17 a_28 HE29 a_30 HE31 a_32 HE33 a_34 HE35 HH1 a_72 HE73 a_77 HE78 a_79 HE80 a_81 HE82 a_83 HE84 K_74 hK75 a_85 HE86 a_89 HE90 a_91 HE92 a_93 HE94 a_95 HE96 K_87 hK88 HH76 a_97 HE98 a_102 HE103 hK100 K_99
          refine nrm ?_
          refine cnd_b HE105 rfl (fun hc28 => ?_) (fun hc28 => ?_)
          · refine wp_seq ?_
            refine rg ?_
            refine pl_x HE105 HH101 (wt0 rfl) (x_assign rfl) rfl rfl fun a_106 HE107 => ?_
            refine pl_x HE107 HH101 (wt0 rfl) (x_assign rfl) rfl rfl fun a_108 HE109 => ?_
            refine pl_x HE109 HH101 (wt0 rfl) (x_assign rfl) rfl rfl fun a_110 HE111 => ?_
            refine wpList_nil ?_
            clear a_104 HE105 a_106 HE107 a_108 HE109
            refine nrm ?_
            refine wp_ret ?_
            refine (thn_ret ?_)
            refine ret3 HE111 rfl (rv_tmp rfl) (rv_tmp rfl) (rv_tmp rfl) ?_
            have HH112 := HH101.vecNil eInt 2
            have HH113 := HH112.vecSo
            have HH114 := HH113.vecNil eInt 2
            have HH115 := HH114.vecSo
            have hF : (expsAt a0 a1) = ([], [], 2) := by
              first | (simp [expsAt, hc22, hc23, hc25, hc27, hc28]; done) | (unfold expsAt; rw [if_pos ‹_›, if_neg (by unfold risesB; grind)]; done) | (unfold expsAt; rw [if_pos ‹_›, if_pos (by unfold risesB; grind), show a1.take k = a1 from List.take_of_length_le (by omega)])
            exact ⟨_, _, _, _, _, _, by rw [hF] <;> rfl, by rw [hF]; exact HH115.sel [1, 0] (by decide) rfl⟩
          · refine wp_skip ?_
            refine nrm ?_
            refine wp_seq ?_
            refine rg ?_
            refine pl fun K_116 hK117 => ?_
            refine st_lit (m := 0) (cs := []) (e := 2) HE105 HH101 (run_lit ts_31 HE105 (vs := []) rfl rfl (by simp [Value.cells]) rfl (by decide)) (wt0 rfl) rfl rfl fun q29 a_118 w' HE119 HH120 => hK117 _ _ ?_
            refine pl_x HE119 HH120 (wt0 rfl) (x_move rfl) rfl rfl fun a_121 HE122 => ?_
            refine pl fun K_123 hK124 => ?_
            refine st_call HE122 (wt0 rfl) rfl rfl rfl en_91 rfl rfl (Clone_Int64 _ _ a0 _ (HH120.old h0) (by omega)) fun e w' hr => ?_
            obtain ⟨Ar30_0, cr30_0, rfl, hor30_0, hbr30⟩ := hr
            obtain ⟨Sr30, HH125⟩ := HH120.newS hbr30 hor30_0
            refine ⟨_, rfl, fun a_126 HE127 => hK124 _ _ ?_⟩
            refine pl_x HE127 HH125 (wt0 rfl) (x_assign rfl) rfl rfl fun a_128 HE129 => ?_
            refine pl_x HE129 HH125 (wt0 rfl) (x_assign rfl) rfl rfl fun a_130 HE131 => ?_
            refine wpList_nil ?_
            clear a_104 HE105 HH101 a_118 HE119 K_116 hK117 HH120 a_121 HE122 a_126 HE127 a_128 HE129 hK124 K_123
            refine nrm ?_
            refine wp_seq ?_
            refine wp_seq ?_
            refine rg ?_
            refine pl_x HE131 HH125 (wt0 rfl) (x_move rfl) rfl rfl fun a_132 HE133 => ?_
            refine pl_x HE133 HH125 (wt0 rfl) (x_len Try.underlying31 rfl) rfl rfl fun a_134 HE135 => ?_
            refine pl_x HE135 HH125 (wt0 rfl) (x_move rfl) rfl rfl fun a_136 HE137 => ?_
            refine wpList_nil ?_
            clear a_130 HE131 a_132 HE133 a_134 HE135
            refine nrm ?_
            refine wp_block ?_
            have HH138 := HH125.sel [1, 0] (by decide) rfl
            have HH139 := Held.vecFlat (E := eInt) (xs := []) (css := []) HH138 rfl (Nat.zero_le _) (fun i x hx => by simp at hx)
            refine lp (fun m a w' => ∃ (k : Nat) (A_7 : Option Addr) (c_7 : Nat) (S_7 : Nat → Prop) (A_8 : Option Addr) (c_8 : Nat) (S_8 : Nat → Prop), m = a1.length - k ∧ Env 65 [(7, .slice A_7 (List.length ((expTo (a1.take k) a0).1)) c_7), (8, .slice A_8 (List.length ((expTo (a1.take k) a0).2)) c_8), (38, .int .i64 (k : Int)), (36, .slice A1 (a1.length) c1), (37, .int .i64 ((a1.length : Int)))] a ∧ Held Nob w [rVec eInt 2 S_7 A_7 c_7 ((expTo (a1.take k) a0).1), rSo eInt S_8 A_8 c_8 ((expTo (a1.take k) a0).2)] w' ∧ (k ≤ a1.length)) (a1.length - (0)) ?_ ?_
            · have E31 : (expTo (a1.take 0) a0).1 = ([] : List Int) := by
                first | rfl | simp
              have E32 : (expTo (a1.take 0) a0).2 = a0 := by
                first | rfl | simp
              exact ⟨0, (some ⟨q29, 0, none⟩), (List.length (α := Int) []), (fun b => b = q29), Ar30_0, cr30_0, Sr30, rfl, HE137.sub ⟨(by rw [E31]; rfl), (by rw [E32]; rfl), (lkI rfl (by first | rfl | omega | (simp [hc22, hc23, hc25, hc27, hc28]; done))), rfl, rfl, trivial⟩, ((HH139.sel [0, 1] (by decide) rfl).to (by first | rfl | (rw [E31, E32]; done) | (rw [E31, E32]; rfl) | (simp only [E31, E32]; done) | (simp only [E31, E32]; rfl))), (by first | omega | assumption | (simp; done) | simp_all)⟩
            · rintro m a_140 w' ⟨k, A_7, c_7, S_7, A_8, c_8, S_8, rfl, HE141, HH142, p33_0⟩
              have hR := NatP_exp hP2 hA k p33_0
              have hR4 := hR.2.1
              have hRl := hR.1
              have ol := expTo_len (n := a0) k p33_0
              refine wp_seq ?_
              refine rg ?_
              refine pl_x HE141 HH142 (wt0 rfl) (x_lss rfl rfl) rfl rfl fun a_143 HE144 => ?_
              refine wpList_nil ?_
              clear HH125 HH138 a_136 HE137 HH139 a_140 HE141
              refine nrm ?_
              refine wp_seq ?_
              refine cnd_d HE144 rfl (fun hc34 => ?_) (fun hc34 => ?_)
              · refine wp_skip ?_
                refine nrm ?_
                refine wp_seq ?_
                refine wp_block ?_
                refine wp_seq ?_
                refine rg ?_
                have ke35 : k < a1.length := by omega
                obtain ⟨be35, fe35, ese35, Ae35, Re35, De35⟩ := el_old h1 ke35
                obtain ⟨e35, xe35⟩ : ∃ x, x = a1[k] := ⟨_, rfl⟩
                rw [← xe35] at Re35
                have Qe35 := Re35
                obtain ⟨rfl, ie35⟩ := Re35
                have je35 := ie35; unfold I64 at je35
                have be35 := hA e35 (by rw [xe35]; exact List.getElem_mem _)
                have hp0 : a1[k]?.getD 0 = e35 := by rw [List.getElem?_eq_getElem ke35, xe35]; rfl
                have hvb := valF_bd e35 800 (expTo (a1.take k) a0).2
                have hvb2 : valP (expTo (a1.take k) a0).2 e35 = valF 800 (expTo (a1.take k) a0).2 e35 := rfl
                have hvc : (valPc (expTo (a1.take k) a0).2 e35).1 = valP (expTo (a1.take k) a0).2 e35 := rfl
                refine pl_x HE144 HH142 (wt0 rfl) (x_indexAddr ts_31 rfl rfl Ae35 rfl ke35) rfl rfl fun a_145 HE146 => ?_
                refine pl_x HE146 HH142 (wt0 rfl) (x_load1 tv_2 rfl (c_old (De35 0 _ rfl))) rfl rfl fun a_147 HE148 => ?_
                refine pl_x HE148 HH142 (wt0 rfl) (x_assign rfl) rfl rfl fun a_149 HE150 => ?_
                refine wpList_nil ?_
                clear a_143 HE144 a_145 HE146 a_147 HE148
                refine nrm ?_
                refine wp_seq ?_
                refine rg ?_
                refine pl_x HE150 HH142 (wt0 rfl) (x_move rfl) rfl rfl fun a_151 HE152 => ?_
                refine pl_x HE152 HH142 (wt0 rfl) (x_move rfl) rfl rfl fun a_153 HE154 => ?_
                refine pl fun K_155 hK156 => ?_
                refine st_call HE154 (wt0 rfl) rfl rfl rfl en_106 rfl rfl (impl_ValuationOfN _ _ ((expTo (a1.take k) a0).2) e35 _ (HH142.sl (i := 1) rfl) (by assumption) (by omega)) fun e w' hr => ?_
                obtain ⟨rfl, hbr36⟩ := hr
                have HH157 := HH142.on hbr36
                refine ⟨_, rfl, fun a_158 HE159 => hK156 _ _ ?_⟩
                refine pl_x HE159 HH157 (wt0 rfl) (x_move rfl) rfl rfl fun a_160 HE161 => ?_
                refine pl_x HE161 HH157 (wt0 rfl) (x_extract rfl rfl) rfl rfl fun a_162 HE163 => ?_
                refine pl_x HE163 HH157 (wt0 rfl) (x_extract rfl rfl) rfl rfl fun a_164 HE165 => ?_
                refine pl_x HE165 HH157 (wt0 rfl) (x_assign rfl) rfl rfl fun a_166 HE167 => ?_
                refine pl_x HE167 HH157 (wt0 rfl) (x_assign rfl) rfl rfl fun a_168 HE169 => ?_
                refine wpList_nil ?_
                clear a_149 HE150 a_151 HE152 HH142 a_153 HE154 a_158 HE159 a_160 HE161 a_162 HE163 a_164 HE165 a_166 HE167 hK156 K_155
                refine nrm ?_
                refine wp_seq ?_
                refine rg ?_
                refine pl_x HE169 HH157 (wt0 rfl) (x_move rfl) rfl rfl fun a_170 HE171 => ?_
                refine pl_x HE171 HH157 (wt0 rfl) (x_move rfl) rfl rfl fun a_172 HE173 => ?_
                refine pl fun K_174 hK175 => ?_
                refine st_lit (m := 1) (cs := [.int .i64 ((valPc ((expTo (a1.take k) a0).2) e35).1)]) (e := 2) HE173 HH157 (run_lit ts_31 HE173 (vs := [.int .i64 ((valPc ((expTo (a1.take k) a0).2) e35).1)]) rfl rfl (by simp [Value.cells]) rfl (by decide)) (wt0 rfl) rfl rfl fun q37 a_176 w' HE177 HH178 => hK175 _ _ ?_
                refine pl fun K_179 hK180 => ?_
                refine st_app1F ((valPc ((expTo (a1.take k) a0).2) e35).1) HE177 HH178 ts_31 [1, 0, 2] (by decide) rfl (fun _ => (oI (by exact ⟨by omega, by omega⟩))) rfl rfl (by simp [Value.oneCell']) (by unfold maxLen; first | omega | (simp; done) | (simp; omega)) (by first | omega | (simp; done) | (simp; omega)) (wt0 rfl) rfl fun A38 c39 S40 a_181 w' HE182 HH183 => hK180 _ _ ?_
                refine pl_x HE182 HH183 (wt0 rfl) (x_assign rfl) rfl rfl fun a_184 HE185 => ?_
                refine wpList_nil ?_
                clear a_168 HE169 a_170 HE171 a_172 HE173 HH157 K_174 hK175 a_176 HE177 HH178 a_181 HE182 hK180 K_179
                refine nrm ?_
                refine wp_seq ?_
                refine rg ?_
                refine pl_x HE185 HH183 (wt0 rfl) (x_move rfl) rfl rfl fun a_186 HE187 => ?_
                refine pl_x HE187 HH183 (wt0 rfl) (x_move rfl) rfl rfl fun a_188 HE189 => ?_
                refine wpList_nil ?_
                clear a_184 HE185 a_186 HE187
                refine nrm ?_
                refine wp_block ?_
                refine lp (fun m a w' => ∃ (j : Nat) (A_8 : Option Addr) (c_8 : Nat) (S_8 : Nat → Prop), m = (valP (expTo (a1.take k) a0).2 (a1[k]?.getD 0) - (j : Int)).toNat ∧ Env 65 [(8, .slice A_8 (List.length (divE (a1[k]?.getD 0) j (expTo (a1.take k) a0).2)) c_8), (53, .int .i64 (j : Int)), (7, .slice A38 (((expTo (a1.take k) a0).1 ++ [(valPc ((expTo (a1.take k) a0).2) e35).1]).length) c39), (10, .int .i64 (e35)), (36, .slice A1 (a1.length) c1), (37, .int .i64 ((a1.length : Int))), (38, .int .i64 ((k : Int))), (52, .int .i64 ((valPc ((expTo (a1.take k) a0).2) e35).1))] a ∧ Held Nob w [rSo eInt S_8 A_8 c_8 (divE (a1[k]?.getD 0) j (expTo (a1.take k) a0).2), rVec eInt 2 S40 A38 c39 ((expTo (a1.take k) a0).1 ++ [(valPc ((expTo (a1.take k) a0).2) e35).1])] w' ∧ ((j : Int) ≤ valP (expTo (a1.take k) a0).2 (a1[k]?.getD 0))) ((valP (expTo (a1.take k) a0).2 (a1[k]?.getD 0) - ((0) : Int)).toNat) ?_ ?_
                · have E41 : divE (a1[k]?.getD 0) 0 (expTo (a1.take k) a0).2 = (expTo (a1.take k) a0).2 := by
                    first | rfl | simp
                  exact ⟨0, A_8, c_8, S_8, rfl, HE189.sub ⟨(by rw [E41]; rfl), (lkI rfl (by first | rfl | omega | (simp [hc22, hc23, hc25, hc27, hc28, p33_0, hc34, xe35]; done))), rfl, rfl, rfl, rfl, rfl, rfl, trivial⟩, ((HH183.sel [1, 0] (by decide) rfl).to (by first | rfl | (rw [E41]; done) | (rw [E41]; rfl) | (simp only [E41]; done) | (simp only [E41]; rfl))), (by first | omega | assumption | (simp; done) | simp_all)⟩
                · rintro m a_190 w' ⟨j, A_8, c_8, S_8, rfl, HE191, HH192, p42_0⟩
                  have hD := NatP_divE (p := a1[k]?.getD 0) (by omega) 800 _ j hR p42_0
                  have hD2 := hD.2.1
                  have hD1 := hD.1
                  refine wp_seq ?_
                  refine rg ?_
                  refine pl_x HE191 HH192 (wt0 rfl) (x_lss rfl rfl) rfl rfl fun a_193 HE194 => ?_
                  refine wpList_nil ?_
                  clear a_188 HE189 HH183 a_190 HE191
                  refine nrm ?_
                  refine wp_seq ?_
                  refine cnd_d HE194 rfl (fun hc43 => ?_) (fun hc43 => ?_)
                  · refine wp_skip ?_
                    refine nrm ?_
                    refine wp_seq ?_
                    refine wp_block ?_
                    refine rg ?_
                    refine pl_x HE194 HH192 (wt0 rfl) (x_move rfl) rfl rfl fun a_195 HE196 => ?_
                    refine pl_x HE196 HH192 (wt0 rfl) (x_move rfl) rfl rfl fun a_197 HE198 => ?_
                    refine pl fun K_199 hK200 => ?_
                    refine st_call HE198 (wt0 rfl) rfl rfl rfl en_107 rfl rfl (impl_divideSmall _ _ (divE (a1[k]?.getD 0) j (expTo (a1.take k) a0).2) e35 _ (HH192.sl (i := 0) rfl) (by first | assumption | exact mulN_limbs _ _) (by omega) (by first | omega | exact Nat.le_trans (mulN_len (by assumption) (by intro x hx; simp at hx; omega)) (by simp; omega))) fun e w' hr => ?_
                    obtain ⟨Ar44_0, cr44_0, rfl, hor44_0, hbr44⟩ := hr
                    obtain ⟨Sr44, HH201⟩ := HH192.newS hbr44 hor44_0
                    refine ⟨_, rfl, fun a_202 HE203 => hK200 _ _ ?_⟩
                    refine pl_x HE203 HH201 (wt0 rfl) (x_move rfl) rfl rfl fun a_204 HE205 => ?_
                    refine pl_x HE205 HH201 (wt0 rfl) (x_extract rfl rfl) rfl rfl fun a_206 HE207 => ?_
                    refine pl_x HE207 HH201 (wt0 rfl) (x_extract rfl rfl) rfl rfl fun a_208 HE209 => ?_
                    refine pl_x HE209 HH201 (wt0 rfl) (x_assign rfl) rfl rfl fun a_210 HE211 => ?_
                    refine wpList_nil ?_
                    clear a_193 HE194 a_195 HE196 HH192 a_197 HE198 a_202 HE203 a_204 HE205 a_206 HE207 a_208 HE209 hK200 K_199
                    refine blk_n ?_
                    refine nrm ?_
                    refine rg ?_
                    refine pl_x HE211 HH201 (wt0 rfl) (x_add rfl rfl (by exact ⟨by omega, by omega⟩)) rfl rfl fun a_212 HE213 => ?_
                    refine pl_x HE213 HH201 (wt0 rfl) (x_move rfl) rfl rfl fun a_214 HE215 => ?_
                    refine wpList_nil ?_
                    clear a_210 HE211 a_212 HE213
                    have E45 : divE (a1[k]?.getD 0) (j + 1) (expTo (a1.take k) a0).2 = (divN (divE (a1[k]?.getD 0) j (expTo (a1.take k) a0).2) e35).1 := by
                      rw [divE_snoc, hp0]
                    exact nrm ⟨(valP (expTo (a1.take k) a0).2 (a1[k]?.getD 0) - ((j + 1) : Int)).toNat, (by rw [hp0] at *; omega), j + 1, Ar44_0, cr44_0, Sr44, rfl, HE215.sub ⟨(by rw [E45]; rfl), (lkI rfl (by first | rfl | omega | (simp [hc22, hc23, hc25, hc27, hc28, p33_0, hc34, xe35, p42_0, hc43]; done))), rfl, rfl, rfl, rfl, rfl, rfl, trivial⟩, ((HH201.sel [0, 2] (by decide) rfl).to (by first | rfl | (rw [E45]; done) | (rw [E45]; rfl) | (simp only [E45]; done) | (simp only [E45]; rfl))), (by rw [hp0] at *; omega)⟩
                  · refine wp_exit ?_
                    refine (thn_exit (thn_exit (blk_hit ?_)))
                    refine blk_n ?_
                    refine nrm ?_
                    refine rg ?_
                    refine pl_x HE194 HH192 (wt0 rfl) (x_add rfl rfl (by exact ⟨by omega, by omega⟩)) rfl rfl fun a_216 HE217 => ?_
                    refine pl_x HE217 HH192 (wt0 rfl) (x_move rfl) rfl rfl fun a_218 HE219 => ?_
                    refine wpList_nil ?_
                    clear a_193 HE194 a_216 HE217
                    have E46 : (expTo (a1.take (k + 1)) a0).1 = ((expTo (a1.take k) a0).1 ++ [(valPc ((expTo (a1.take k) a0).2) e35).1]) := by
                      rw [expTo_succ (by omega), ← xe35]; rfl
                    have E47 : (expTo (a1.take (k + 1)) a0).2 = divE (a1[k]?.getD 0) j (expTo (a1.take k) a0).2 := by
                      rw [expTo_succ (by omega), ← xe35]; show divE e35 (valP _ e35).toNat _ = _; rw [hp0, show (valP (expTo (a1.take k) a0).2 e35).toNat = j from by rw [hp0] at p42_0; omega]
                    exact nrm ⟨a1.length - (k + 1), (by omega), k + 1, A38, c39, S40, A_8, c_8, S_8, rfl, HE219.sub ⟨(by rw [E46]; rfl), (by rw [E47]; rfl), (lkI rfl (by first | rfl | omega | (simp [hc22, hc23, hc25, hc27, hc28, p33_0, hc34, xe35, p42_0, hc43]; done))), rfl, rfl, trivial⟩, ((HH192.sel [1, 0] (by decide) rfl).to (by first | rfl | (rw [E46, E47]; done) | (rw [E46, E47]; rfl) | (simp only [E46, E47]; done) | (simp only [E46, E47]; rfl))), (by first | omega | assumption | (simp; done) | simp_all)⟩
              · refine wp_exit ?_
                refine (thn_exit (thn_exit (blk_hit ?_)))
                refine nrm ?_
                refine wp_seq ?_
                refine rg ?_
                refine pl_x HE144 HH142 (wt0 rfl) (x_move rfl) rfl rfl fun a_220 HE221 => ?_
                refine pl_x HE221 HH142 (wt0 rfl) (x_move rfl) rfl rfl fun a_222 HE223 => ?_
                refine pl_x HE223 HH142 (wt0 rfl) (x_assign rfl) rfl rfl fun a_224 HE225 => ?_
                refine pl_x HE225 HH142 (wt0 rfl) (x_assign rfl) rfl rfl fun a_226 HE227 => ?_
                refine pl_x HE227 HH142 (wt0 rfl) (x_assign rfl) rfl rfl fun a_228 HE229 => ?_
                refine wpList_nil ?_
                clear a_143 HE144 a_220 HE221 a_222 HE223 a_224 HE225 a_226 HE227
                refine nrm ?_
                refine wp_ret ?_
                refine ret3 HE229 rfl (rv_tmp rfl) (rv_tmp rfl) (rv_tmp rfl) ?_
                have HH230 := HH142.vecSo
                have hF : (expsAt a0 a1) = ((expTo (a1.take k) a0).1, (expTo (a1.take k) a0).2, 0) := by
                  first | (simp [expsAt, hc22, hc23, hc25, hc27, hc28, p33_0, hc34]; done) | (unfold expsAt; rw [if_pos ‹_›, if_neg (by unfold risesB; grind)]; done) | (unfold expsAt; rw [if_pos ‹_›, if_pos (by unfold risesB; grind), show a1.take k = a1 from List.take_of_length_le (by omega)])
                exact ⟨_, _, _, _, _, _, by rw [hF] <;> rfl, by rw [hF]; exact HH230.sel [0, 1] (by decide) rfl⟩
        · refine pl_no HE96 (wtF HE96 rfl rfl rfl (not_t hc27)) rfl rfl fun a_231 HE232 => ?_
          refine pl_no HE232 (wtF HE232 rfl rfl rfl (not_t hc27)) rfl rfl fun a_233 HE234 => ?_
          refine pl_x HE234 HH76 (wt0 rfl) (x_pickT rfl (not_t hc27) rfl) rfl rfl fun a_235 HE236 => ?_
          refine wpList_nil ?_
          clear a_16 HE17 a_28 HE29 a_30 HE31 a_32 HE33 a_34 HE35 HH1 a_72 HE73 a_77 HE78 a_79 HE80 a_81 HE82 a_83 HE84 K_74 hK75 a_85 HE86 a_89 HE90 a_91 HE92 a_93 HE94 a_95 HE96 a_231 HE232 a_233 HE234 hK88 K_87
          refine nrm ?_
          refine cndT HE236 rfl rfl ?_
          refine wp_seq ?_
          refine rg ?_
          refine pl_x HE236 HH76 (wt0 rfl) (x_assign rfl) rfl rfl fun a_237 HE238 => ?_
          refine pl_x HE238 HH76 (wt0 rfl) (x_assign rfl) rfl rfl fun a_239 HE240 => ?_
          refine pl_x HE240 HH76 (wt0 rfl) (x_assign rfl) rfl rfl fun a_241 HE242 => ?_
          refine wpList_nil ?_
          clear a_235 HE236 a_237 HE238 a_239 HE240
          refine nrm ?_
          refine wp_ret ?_
          refine (thn_ret ?_)
          refine ret3 HE242 rfl (rv_tmp rfl) (rv_tmp rfl) (rv_tmp rfl) ?_
          have HH243 := HH76.vecNil eInt 2
          have HH244 := HH243.vecSo
          have HH245 := HH244.vecNil eInt 2
          have HH246 := HH245.vecSo
          have hF : (expsAt a0 a1) = ([], [], 2) := by
            first | (simp [expsAt, hc22, hc23, hc25, hc27]; done) | (unfold expsAt; rw [if_pos ‹_›, if_neg (by unfold risesB; grind)]; done) | (unfold expsAt; rw [if_pos ‹_›, if_pos (by unfold risesB; grind), show a1.take k = a1 from List.take_of_length_le (by omega)])
          exact ⟨_, _, _, _, _, _, by rw [hF] <;> rfl, by rw [hF]; exact HH246.sel [1, 0] (by decide) rfl⟩
      · refine pl_no HE84 (wtF HE84 rfl rfl rfl (not_t hc25)) rfl rfl fun a_247 HE248 => ?_
        refine pl_no HE248 (wtF HE248 rfl rfl rfl (not_t hc25)) rfl rfl fun a_249 HE250 => ?_
        refine pl_no HE250 (wtF HE250 rfl rfl rfl (not_t hc25)) rfl rfl fun a_251 HE252 => ?_
        refine pl_x HE252 HH76 (wt0 rfl) (x_pickT rfl (not_t hc25) rfl) rfl rfl fun a_253 HE254 => ?_
        refine pl_x HE254 HH76 (wt0 rfl) (x_move rfl) rfl rfl fun a_255 HE256 => ?_
        refine pl_no HE256 (wtF HE256 rfl rfl rfl rfl) rfl rfl fun a_257 HE258 => ?_
        refine pl_no HE258 (wtF HE258 rfl rfl rfl rfl) rfl rfl fun a_259 HE260 => ?_
        refine pl_x HE260 HH76 (wt0 rfl) (x_pickT rfl rfl rfl) rfl rfl fun a_261 HE262 => ?_
        refine wpList_nil ?_
        clear a_16 HE17 a_28 HE29 a_30 HE31 a_32 HE33 a_34 HE35 HH1 a_72 HE73 a_77 HE78 a_79 HE80 a_81 HE82 a_83 HE84 a_247 HE248 a_249 HE250 a_251 HE252 a_253 HE254 a_255 HE256 a_257 HE258 a_259 HE260 hK75 K_74
        refine nrm ?_
        refine cndT HE262 rfl rfl ?_
        refine wp_seq ?_
        refine rg ?_
        refine pl_x HE262 HH76 (wt0 rfl) (x_assign rfl) rfl rfl fun a_263 HE264 => ?_
        refine pl_x HE264 HH76 (wt0 rfl) (x_assign rfl) rfl rfl fun a_265 HE266 => ?_
        refine pl_x HE266 HH76 (wt0 rfl) (x_assign rfl) rfl rfl fun a_267 HE268 => ?_
        refine wpList_nil ?_
        clear a_261 HE262 a_263 HE264 a_265 HE266
        refine nrm ?_
        refine wp_ret ?_
        refine (thn_ret ?_)
        refine ret3 HE268 rfl (rv_tmp rfl) (rv_tmp rfl) (rv_tmp rfl) ?_
        have HH269 := HH76.vecNil eInt 2
        have HH270 := HH269.vecSo
        have HH271 := HH270.vecNil eInt 2
        have HH272 := HH271.vecSo
        have hF : (expsAt a0 a1) = ([], [], 2) := by
          first | (simp [expsAt, hc22, hc23, hc25]; done) | (unfold expsAt; rw [if_pos ‹_›, if_neg (by unfold risesB; grind)]; done) | (unfold expsAt; rw [if_pos ‹_›, if_pos (by unfold risesB; grind), show a1.take k = a1 from List.take_of_length_le (by omega)])
        exact ⟨_, _, _, _, _, _, by rw [hF] <;> rfl, by rw [hF]; exact HH272.sel [1, 0] (by decide) rfl⟩

theorem risesB_mem {xs : List Int} {lo hi : Int} (h : risesB xs lo hi = true) : ∀ x ∈ xs, lo ≤ x ∧ x ≤ hi := by
  unfold risesB at h
  rw [Bool.and_eq_true] at h
  exact allW_mem h.2

theorem expsAt_ct (n ps : List Int) : (ct_L (expsAt n ps).1 : Int) ≤ 1000000000 ∧ (ct_L (expsAt n ps).2.1 : Int) ≤ 1000000000 := by
  rw [ct_L_len, ct_L_len]
  unfold expsAt
  split
  · rename_i hn
    split
    · rename_i h
      have h1 := expTo_len (n := n) ps.length (ps := ps) (Nat.le_refl _)
      have h2 := NatP_exp (isPos_NatP hn) (risesB_mem h.2.1) ps.length (Nat.le_refl _)
      rw [List.take_length] at h1 h2
      have h3 := h2.2.1
      simp only
      omega
    · simp
  · simp

set_option maxRecDepth 100000 in
set_option maxHeartbeats 4000000 in
theorem spec_ExponentsAt (A0 : Option Addr) (c0 : Nat) (a0 : (List Int)) (A1 : Option Addr) (c1 : Nat) (a1 : (List Int)) (w : World) (h0 : Sl eInt w (Old w) A0 c0 a0) (h1 : Sl eInt w (Old w) A1 c1 a1) :
    Calls Try.prog 44 #[.slice A0 a0.length c0, .slice A1 a1.length c1] w fun e w' => ∃ (A0' : Option Addr) (c0' : Nat) (S0' : Nat → Prop) (A1' : Option Addr) (c1' : Nat) (S1' : Nat → Prop), e = .returned (.tuple #[.slice A0' (expsAt a0 a1).1.length c0', .slice A1' (expsAt a0 a1).2.1.length c1', .int .i64 (expsAt a0 a1).2.2]) ∧ Held Nob w [rSo eInt S0' A0' c0' (expsAt a0 a1).1, rSo eInt S1' A1' c1' (expsAt a0 a1).2.1] w' := by
  have l0 := h0.len
  have l1 := h1.len
  have HH1 := Held.start Nob w
  refine enter (n := 74) Try.func44 rfl rfl rfl fun a_2 HE3 => ?_
  refine wp_seq ?_
  refine rg ?_
  refine pl_x HE3 HH1 (wt0 rfl) (x_assign rfl) rfl rfl fun a_4 HE5 => ?_
  refine pl_x HE5 HH1 (wt0 rfl) (x_assign rfl) rfl rfl fun a_6 HE7 => ?_
  refine pl_x HE7 HH1 (wt0 rfl) (x_assign rfl) rfl rfl fun a_8 HE9 => ?_
  refine wpList_nil ?_
  clear a_2 HE3 a_4 HE5 a_6 HE7
  refine nrm ?_
  refine wp_seq ?_
  refine wp_seq ?_
  refine rg ?_
  refine pl_x HE9 HH1 (wt0 rfl) (x_move rfl) rfl rfl fun a_10 HE11 => ?_
  refine pl fun K_12 hK13 => ?_
  refine st_call HE11 (wt0 rfl) rfl rfl rfl en_96 rfl rfl (spec_l08Number _ _ a0 _ (HH1.old h0)) fun e w' hr => ?_
  obtain ⟨rfl, hbr21⟩ := hr
  have HH14 := HH1.on hbr21
  refine ⟨_, rfl, fun a_15 HE16 => hK13 _ _ ?_⟩
  refine pl_x HE16 HH14 (wt0 rfl) (x_not rfl) rfl rfl fun a_17 HE18 => ?_
  refine wpList_nil ?_
  clear a_8 HE9 HH1 a_10 HE11 a_15 HE16 hK13 K_12
  refine nrm ?_
  refine cnd_nb HE18 rfl (fun hc22 => ?_) (fun hc22 => ?_)
  · refine wp_seq ?_
    refine rg ?_
    refine pl_x HE18 HH14 (wt0 rfl) (x_assign rfl) rfl rfl fun a_19 HE20 => ?_
    refine pl_x HE20 HH14 (wt0 rfl) (x_assign rfl) rfl rfl fun a_21 HE22 => ?_
    refine pl_x HE22 HH14 (wt0 rfl) (x_assign rfl) rfl rfl fun a_23 HE24 => ?_
    refine wpList_nil ?_
    clear a_17 HE18 a_19 HE20 a_21 HE22
    refine nrm ?_
    refine wp_ret ?_
    refine (thn_ret ?_)
    refine ret3 HE24 rfl (rv_tmp rfl) (rv_tmp rfl) (rv_tmp rfl) ?_
    have HH25 := HH14.vecNil eInt 2
    have HH26 := HH25.vecSo
    have HH27 := HH26.vecNil eInt 2
    have HH28 := HH27.vecSo
    have hF : (expsAt a0 a1) = ([], [], 1) := by
      first | (simp [expsAt, hc22]; done) | (unfold expsAt; rw [if_pos ‹_›, if_neg (by omega)]; done) | (unfold expsAt; rw [if_pos ‹_›, if_neg (by grind)]; done) | (unfold expsAt; rw [if_pos ‹_›, if_neg (by rw [any_hit (by omega : u < a1.length) (by rw [← xe0]; unfold notP; rw [hc22]; rfl)]; simp)]; done) | (unfold expsAt; rw [if_pos ‹_›, if_pos ⟨by omega, ‹_›, hq1⟩, show a1.take k = a1 from List.take_of_length_le (by omega)])
    exact ⟨_, _, _, _, _, _, by rw [hF] <;> rfl, by rw [hF]; exact HH28.sel [1, 0] (by decide) rfl⟩
  · have hP := isPos_facts hc22
    have hP2 := isPos_NatP hc22
    refine wp_skip ?_
    refine nrm ?_
    refine wp_seq ?_
    refine wp_seq ?_
    refine rg ?_
    refine pl_x HE18 HH14 (wt0 rfl) (x_move rfl) rfl rfl fun a_29 HE30 => ?_
    refine pl_x HE30 HH14 (wt0 rfl) (x_len Try.underlying31 rfl) rfl rfl fun a_31 HE32 => ?_
    refine pl_x HE32 HH14 (wt0 rfl) (x_gtr rfl rfl) rfl rfl fun a_33 HE34 => ?_
    refine pl_x HE34 HH14 (wt0 rfl) (x_move rfl) rfl rfl fun a_35 HE36 => ?_
    by_cases hc23 : 64 < (a1.length : Int)
    · refine pl_no HE36 (wtF HE36 rfl rfl rfl (decide_eq_true hc23)) rfl rfl fun a_37 HE38 => ?_
      refine pl_no HE38 (wtF HE38 rfl rfl rfl (decide_eq_true hc23)) rfl rfl fun a_39 HE40 => ?_
      refine pl_no HE40 (wtF HE40 rfl rfl rfl (decide_eq_true hc23)) rfl rfl fun a_41 HE42 => ?_
      refine pl_x HE42 HH14 (wt0 rfl) (x_pickT rfl (decide_eq_true hc23) rfl) rfl rfl fun a_43 HE44 => ?_
      refine wpList_nil ?_
      clear a_17 HE18 a_29 HE30 a_31 HE32 a_33 HE34 a_35 HE36 a_37 HE38 a_39 HE40 a_41 HE42
      refine nrm ?_
      refine cndT HE44 rfl rfl ?_
      refine wp_seq ?_
      refine rg ?_
      refine pl_x HE44 HH14 (wt0 rfl) (x_assign rfl) rfl rfl fun a_45 HE46 => ?_
      refine pl_x HE46 HH14 (wt0 rfl) (x_assign rfl) rfl rfl fun a_47 HE48 => ?_
      refine pl_x HE48 HH14 (wt0 rfl) (x_assign rfl) rfl rfl fun a_49 HE50 => ?_
      refine wpList_nil ?_
      clear a_43 HE44 a_45 HE46 a_47 HE48
      refine nrm ?_
      refine wp_ret ?_
      refine (thn_ret ?_)
      refine ret3 HE50 rfl (rv_tmp rfl) (rv_tmp rfl) (rv_tmp rfl) ?_
      have HH51 := HH14.vecNil eInt 2
      have HH52 := HH51.vecSo
      have HH53 := HH52.vecNil eInt 2
      have HH54 := HH53.vecSo
      have hF : (expsAt a0 a1) = ([], [], 2) := by
        first | (simp [expsAt, hc22, hc23]; done) | (unfold expsAt; rw [if_pos ‹_›, if_neg (by omega)]; done) | (unfold expsAt; rw [if_pos ‹_›, if_neg (by grind)]; done) | (unfold expsAt; rw [if_pos ‹_›, if_neg (by rw [any_hit (by omega : u < a1.length) (by rw [← xe0]; unfold notP; rw [hc23]; rfl)]; simp)]; done) | (unfold expsAt; rw [if_pos ‹_›, if_pos ⟨by omega, ‹_›, hq1⟩, show a1.take k = a1 from List.take_of_length_le (by omega)])
      exact ⟨_, _, _, _, _, _, by rw [hF] <;> rfl, by rw [hF]; exact HH54.sel [1, 0] (by decide) rfl⟩
    · refine pl_x HE36 HH14 (wtT HE36 rfl rfl rfl (decide_eq_false hc23)) (x_move rfl) rfl rfl fun a_55 HE56 => ?_
      refine pl fun K_57 hK58 => ?_
      refine st_call HE56 (wtT HE56 rfl rfl rfl (decide_eq_false hc23)) rfl rfl rfl en_97 rfl rfl (spec_l00RisesE _ _ a1 2 999999 _ (HH14.old h1)) fun e w' hr => ?_
      obtain ⟨rfl, hbr24⟩ := hr
      have HH59 := HH14.on hbr24
      refine ⟨_, rfl, fun a_60 HE61 => hK58 _ _ ?_⟩
      refine pl_x HE61 HH59 (wtT HE61 rfl rfl rfl (decide_eq_false hc23)) (x_not rfl) rfl rfl fun a_62 HE63 => ?_
      refine pl_x HE63 HH59 (wt0 rfl) (x_pickF rfl (decide_eq_false hc23) rfl) rfl rfl fun a_64 HE65 => ?_
      refine wpList_nil ?_
      clear a_17 HE18 a_29 HE30 a_31 HE32 a_33 HE34 a_35 HE36 HH14 a_55 HE56 a_60 HE61 a_62 HE63 hK58 K_57
      refine nrm ?_
      refine cnd_nb HE65 rfl (fun hc25 => ?_) (fun hc25 => ?_)
      · refine wp_seq ?_
        refine rg ?_
        refine pl_x HE65 HH59 (wt0 rfl) (x_assign rfl) rfl rfl fun a_66 HE67 => ?_
        refine pl_x HE67 HH59 (wt0 rfl) (x_assign rfl) rfl rfl fun a_68 HE69 => ?_
        refine pl_x HE69 HH59 (wt0 rfl) (x_assign rfl) rfl rfl fun a_70 HE71 => ?_
        refine wpList_nil ?_
        clear a_64 HE65 a_66 HE67 a_68 HE69
        refine nrm ?_
        refine wp_ret ?_
        refine (thn_ret ?_)
        refine ret3 HE71 rfl (rv_tmp rfl) (rv_tmp rfl) (rv_tmp rfl) ?_
        have HH72 := HH59.vecNil eInt 2
        have HH73 := HH72.vecSo
        have HH74 := HH73.vecNil eInt 2
        have HH75 := HH74.vecSo
        have hF : (expsAt a0 a1) = ([], [], 2) := by
          first | (simp [expsAt, hc22, hc23, hc25]; done) | (unfold expsAt; rw [if_pos ‹_›, if_neg (by omega)]; done) | (unfold expsAt; rw [if_pos ‹_›, if_neg (by grind)]; done) | (unfold expsAt; rw [if_pos ‹_›, if_neg (by rw [any_hit (by omega : u < a1.length) (by rw [← xe0]; unfold notP; rw [hc25]; rfl)]; simp)]; done) | (unfold expsAt; rw [if_pos ‹_›, if_pos ⟨by omega, ‹_›, hq1⟩, show a1.take k = a1 from List.take_of_length_le (by omega)])
        exact ⟨_, _, _, _, _, _, by rw [hF] <;> rfl, by rw [hF]; exact HH75.sel [1, 0] (by decide) rfl⟩
      · have hA := risesB_mem hc25
        refine wp_skip ?_
        refine nrm ?_
        refine wp_seq ?_
        refine wp_seq ?_
        refine rg ?_
        refine pl_x HE65 HH59 (wt0 rfl) (x_assign rfl) rfl rfl fun a_76 HE77 => ?_
        refine wpList_nil ?_
        clear a_64 HE65
        refine nrm ?_
        refine wp_block ?_
        refine lp (fun m a w' => ∃ (u : Nat), m = a1.length - u ∧ Env 74 [(7, .int .i64 (u : Int)), (0, .slice A0 (a0.length) c0), (1, .slice A1 (a1.length) c1)] a ∧ Held Nob w [] w' ∧ (u ≤ a1.length) ∧ ((a1.take u).any notP = false)) (a1.length - (0)) ?_ ?_
        · exact ⟨0, rfl, HE77.sub ⟨(lkI rfl (by first | rfl | omega | (simp [hc22, hc23, hc25]; done))), rfl, rfl, trivial⟩, (HH59.sel [] (by decide) rfl), (by first | omega | assumption | (simp; done) | simp_all), (by rfl)⟩
        · rintro m a_78 w' ⟨u, rfl, HE79, HH80, p26_0, p26_1⟩
          refine wp_seq ?_
          refine wp_seq ?_
          refine rg ?_
          refine pl_x HE79 HH80 (wt0 rfl) (x_move rfl) rfl rfl fun a_81 HE82 => ?_
          refine pl_x HE82 HH80 (wt0 rfl) (x_move rfl) rfl rfl fun a_83 HE84 => ?_
          refine pl_x HE84 HH80 (wt0 rfl) (x_len Try.underlying31 rfl) rfl rfl fun a_85 HE86 => ?_
          refine pl_x HE86 HH80 (wt0 rfl) (x_lss rfl rfl) rfl rfl fun a_87 HE88 => ?_
          refine wpList_nil ?_
          clear a_76 HE77 HH59 a_78 HE79 a_81 HE82 a_83 HE84 a_85 HE86
          refine nrm ?_
          refine cnd_d HE88 rfl (fun hc27 => ?_) (fun hc27 => ?_)
          · refine wp_skip ?_
            refine nrm ?_
            refine wp_seq ?_
            refine wp_block ?_
            refine wp_seq ?_
            refine rg ?_
            refine pl_x HE88 HH80 (wt0 rfl) (x_move rfl) rfl rfl fun a_89 HE90 => ?_
            refine pl_x HE90 HH80 (wt0 rfl) (x_move rfl) rfl rfl fun a_91 HE92 => ?_
            have ke28 : u < a1.length := by omega
            obtain ⟨be28, fe28, ese28, Ae28, Re28, De28⟩ := el_old h1 ke28
            obtain ⟨e28, xe28⟩ : ∃ x, x = a1[u] := ⟨_, rfl⟩
            rw [← xe28] at Re28
            have Qe28 := Re28
            obtain ⟨rfl, ie28⟩ := Re28
            have je28 := ie28; unfold I64 at je28
            have be28 := hA e28 (by rw [xe28]; exact List.getElem_mem _)
            have hp0 : a1[u]?.getD 0 = e28 := by rw [List.getElem?_eq_getElem ke28, xe28]; rfl
            have hvb := valF_bd e28 800 (expTo (a1.take u) a0).2
            have hvb2 : valP (expTo (a1.take u) a0).2 e28 = valF 800 (expTo (a1.take u) a0).2 e28 := rfl
            have hvc : (valPc (expTo (a1.take u) a0).2 e28).1 = valP (expTo (a1.take u) a0).2 e28 := rfl
            refine pl_x HE92 HH80 (wt0 rfl) (x_indexAddr ts_31 rfl rfl Ae28 rfl ke28) rfl rfl fun a_93 HE94 => ?_
            refine pl_x HE94 HH80 (wt0 rfl) (x_load1 tv_2 rfl (c_old (De28 0 _ rfl))) rfl rfl fun a_95 HE96 => ?_
            refine pl fun K_97 hK98 => ?_
            refine st_call HE96 (wt0 rfl) rfl rfl rfl en_98 rfl rfl (spec_l01Prime e28 _ (by omega)) fun e w' hr => ?_
            obtain ⟨rfl, hbr29⟩ := hr
            have HH99 := HH80.on hbr29
            refine ⟨_, rfl, fun a_100 HE101 => hK98 _ _ ?_⟩
            refine pl_x HE101 HH99 (wt0 rfl) (x_not rfl) rfl rfl fun a_102 HE103 => ?_
            refine wpList_nil ?_
            clear a_87 HE88 a_89 HE90 a_91 HE92 a_93 HE94 HH80 a_95 HE96 a_100 HE101 hK98 K_97
            refine nrm ?_
            refine cnd_nb HE103 rfl (fun hc30 => ?_) (fun hc30 => ?_)
            · refine wp_seq ?_
              refine rg ?_
              refine pl_x HE103 HH99 (wt0 rfl) (x_assign rfl) rfl rfl fun a_104 HE105 => ?_
              refine pl_x HE105 HH99 (wt0 rfl) (x_assign rfl) rfl rfl fun a_106 HE107 => ?_
              refine pl_x HE107 HH99 (wt0 rfl) (x_assign rfl) rfl rfl fun a_108 HE109 => ?_
              refine wpList_nil ?_
              clear a_102 HE103 a_104 HE105 a_106 HE107
              refine nrm ?_
              refine wp_ret ?_
              refine (blk_ret (thn_ret (thn_ret (blk_ret (thn_ret ?_)))))
              refine ret3 HE109 rfl (rv_tmp rfl) (rv_tmp rfl) (rv_tmp rfl) ?_
              have HH110 := HH99.vecNil eInt 2
              have HH111 := HH110.vecSo
              have HH112 := HH111.vecNil eInt 2
              have HH113 := HH112.vecSo
              have hF : (expsAt a0 a1) = ([], [], 2) := by
                first | (simp [expsAt, hc22, hc23, hc25, p26_0, p26_1, hc27, xe28, hc30]; done) | (unfold expsAt; rw [if_pos ‹_›, if_neg (by omega)]; done) | (unfold expsAt; rw [if_pos ‹_›, if_neg (by grind)]; done) | (unfold expsAt; rw [if_pos ‹_›, if_neg (by rw [any_hit (by omega : u < a1.length) (by rw [← xe28]; unfold notP; rw [hc30]; rfl)]; simp)]; done) | (unfold expsAt; rw [if_pos ‹_›, if_pos ⟨by omega, ‹_›, hq1⟩, show a1.take k = a1 from List.take_of_length_le (by omega)])
              exact ⟨_, _, _, _, _, _, by rw [hF] <;> rfl, by rw [hF]; exact HH113.sel [1, 0] (by decide) rfl⟩
            · refine wp_skip ?_
              refine blk_n ?_
              refine nrm ?_
              refine rg ?_
              refine pl_x HE103 HH99 (wt0 rfl) (x_move rfl) rfl rfl fun a_114 HE115 => ?_
              refine pl_x HE115 HH99 (wt0 rfl) (x_add rfl rfl (by exact ⟨by omega, by omega⟩)) rfl rfl fun a_116 HE117 => ?_
              refine pl_x HE117 HH99 (wt0 rfl) (x_assign rfl) rfl rfl fun a_118 HE119 => ?_
              refine wpList_nil ?_
              clear a_102 HE103 a_114 HE115 a_116 HE117
              exact nrm ⟨a1.length - (u + 1), (by omega), u + 1, rfl, HE119.sub ⟨(lkI rfl (by first | rfl | omega | (simp [hc22, hc23, hc25, p26_0, p26_1, hc27, xe28, hc30]; done))), rfl, rfl, trivial⟩, (HH99.sel [] (by decide) rfl), (by first | omega | assumption | (simp; done) | simp_all), (by exact any_step (by omega) p26_1 (by rw [← xe28]; unfold notP; rw [hc30]; rfl))⟩
          · refine wp_exit ?_
            refine (thn_exit (thn_exit (blk_hit ?_)))
            refine nrm ?_
            refine wp_seq ?_
            refine rg ?_
            refine pl fun K_120 hK121 => ?_
            refine st_lit (m := 0) (cs := []) (e := 2) HE88 HH80 (run_lit ts_31 HE88 (vs := []) rfl rfl (by simp [Value.cells]) rfl (by decide)) (wt0 rfl) rfl rfl fun q31 a_122 w' HE123 HH124 => hK121 _ _ ?_
            refine pl_x HE123 HH124 (wt0 rfl) (x_assign rfl) rfl rfl fun a_125 HE126 => ?_
            refine wpList_nil ?_
            clear a_87 HE88 HH80 a_122 HE123 hK121 K_120
            refine nrm ?_
            refine wp_seq ?_
            refine rg ?_
            refine pl_x HE126 HH124 (wt0 rfl) (x_move rfl) rfl rfl fun a_127 HE128 => ?_
            refine pl fun K_129 hK130 => ?_
            refine st_call HE128 (wt0 rfl) rfl rfl rfl en_90 rfl rfl (spec_l00Own _ _ a0 _ (HH124.old h0) (by omega)) fun e w' hr => ?_
            obtain ⟨Ar32_0, cr32_0, rfl, hor32_0, hbr32⟩ := hr
            obtain ⟨Sr32, HH131⟩ := HH124.newS hbr32 hor32_0
            refine ⟨_, rfl, fun a_132 HE133 => hK130 _ _ ?_⟩
            refine pl_x HE133 HH131 (wt0 rfl) (x_assign rfl) rfl rfl fun a_134 HE135 => ?_
            refine wpList_nil ?_
            clear a_125 HE126 HH124 a_127 HE128 a_132 HE133 hK130 K_129
            refine nrm ?_
            refine wp_seq ?_
            refine wp_seq ?_
            refine rg ?_
            refine pl_x HE135 HH131 (wt0 rfl) (x_assign rfl) rfl rfl fun a_136 HE137 => ?_
            refine wpList_nil ?_
            clear a_134 HE135
            refine nrm ?_
            refine wp_block ?_
            have hq1 := p26_1
            rw [List.take_of_length_le (by omega)] at hq1
            have HH138 := HH131.sel [1, 0] (by decide) rfl
            have HH139 := Held.vecFlat (E := eInt) (xs := []) (css := []) HH138 rfl (Nat.zero_le _) (fun i x hx => by simp at hx)
            refine lp (fun m a w' => ∃ (k : Nat) (A_8 : Option Addr) (c_8 : Nat) (S_8 : Nat → Prop) (A_9 : Option Addr) (c_9 : Nat) (S_9 : Nat → Prop), m = a1.length - k ∧ Env 74 [(8, .slice A_8 (List.length ((expTo (a1.take k) a0).1)) c_8), (9, .slice A_9 (List.length ((expTo (a1.take k) a0).2)) c_9), (10, .int .i64 (k : Int)), (1, .slice A1 (a1.length) c1)] a ∧ Held Nob w [rVec eInt 2 S_8 A_8 c_8 ((expTo (a1.take k) a0).1), rSo eInt S_9 A_9 c_9 ((expTo (a1.take k) a0).2)] w' ∧ (k ≤ a1.length)) (a1.length - (0)) ?_ ?_
            · have E33 : (expTo (a1.take 0) a0).1 = ([] : List Int) := by
                first | rfl | simp
              have E34 : (expTo (a1.take 0) a0).2 = a0 := by
                first | rfl | simp
              exact ⟨0, (some ⟨q31, 0, none⟩), (List.length (α := Int) []), (fun b => b = q31), Ar32_0, cr32_0, Sr32, rfl, HE137.sub ⟨(by rw [E33]; rfl), (by rw [E34]; rfl), (lkI rfl (by first | rfl | omega | (simp [hc22, hc23, hc25, p26_0, p26_1, hc27]; done))), rfl, trivial⟩, ((HH139.sel [0, 1] (by decide) rfl).to (by first | rfl | (rw [E33, E34]; done) | (rw [E33, E34]; rfl) | (simp only [E33, E34]; done) | (simp only [E33, E34]; rfl))), (by first | omega | assumption | (simp; done) | simp_all)⟩
            · rintro m a_140 w' ⟨k, A_8, c_8, S_8, A_9, c_9, S_9, rfl, HE141, HH142, p35_0⟩
              have hR := NatP_exp hP2 hA k p35_0
              have hR4 := hR.2.1
              have hRl := hR.1
              have ol := expTo_len (n := a0) k p35_0
              refine wp_seq ?_
              refine wp_seq ?_
              refine rg ?_
              refine pl_x HE141 HH142 (wt0 rfl) (x_move rfl) rfl rfl fun a_143 HE144 => ?_
              refine pl_x HE144 HH142 (wt0 rfl) (x_move rfl) rfl rfl fun a_145 HE146 => ?_
              refine pl_x HE146 HH142 (wt0 rfl) (x_len Try.underlying31 rfl) rfl rfl fun a_147 HE148 => ?_
              refine pl_x HE148 HH142 (wt0 rfl) (x_lss rfl rfl) rfl rfl fun a_149 HE150 => ?_
              refine wpList_nil ?_
              clear HH131 HH138 a_136 HE137 HH139 a_140 HE141 a_143 HE144 a_145 HE146 a_147 HE148
              refine nrm ?_
              refine cnd_d HE150 rfl (fun hc36 => ?_) (fun hc36 => ?_)
              · refine wp_skip ?_
                refine nrm ?_
                refine wp_seq ?_
                refine wp_block ?_
                refine wp_seq ?_
                refine rg ?_
                refine pl_x HE150 HH142 (wt0 rfl) (x_move rfl) rfl rfl fun a_151 HE152 => ?_
                refine pl_x HE152 HH142 (wt0 rfl) (x_move rfl) rfl rfl fun a_153 HE154 => ?_
                refine pl_x HE154 HH142 (wt0 rfl) (x_move rfl) rfl rfl fun a_155 HE156 => ?_
                have ke37 : k < a1.length := by omega
                obtain ⟨be37, fe37, ese37, Ae37, Re37, De37⟩ := el_old h1 ke37
                obtain ⟨e37, xe37⟩ : ∃ x, x = a1[k] := ⟨_, rfl⟩
                rw [← xe37] at Re37
                have Qe37 := Re37
                obtain ⟨rfl, ie37⟩ := Re37
                have je37 := ie37; unfold I64 at je37
                have be37 := hA e37 (by rw [xe37]; exact List.getElem_mem _)
                have hp0 : a1[k]?.getD 0 = e37 := by rw [List.getElem?_eq_getElem ke37, xe37]; rfl
                have hvb := valF_bd e37 800 (expTo (a1.take k) a0).2
                have hvb2 : valP (expTo (a1.take k) a0).2 e37 = valF 800 (expTo (a1.take k) a0).2 e37 := rfl
                have hvc : (valPc (expTo (a1.take k) a0).2 e37).1 = valP (expTo (a1.take k) a0).2 e37 := rfl
                refine pl_x HE156 HH142 (wt0 rfl) (x_indexAddr ts_31 rfl rfl Ae37 rfl ke37) rfl rfl fun a_157 HE158 => ?_
                refine pl_x HE158 HH142 (wt0 rfl) (x_load1 tv_2 rfl (c_old (De37 0 _ rfl))) rfl rfl fun a_159 HE160 => ?_
                refine pl fun K_161 hK162 => ?_
                refine st_call HE160 (wt0 rfl) rfl rfl rfl en_99 rfl rfl (spec_l02Valuation _ _ ((expTo (a1.take k) a0).2) e37 _ (HH142.sl (i := 1) rfl) (by first | assumption | exact hR) (by omega)) fun e w' hr => ?_
                obtain ⟨rfl, hbr38⟩ := hr
                have HH163 := HH142.on hbr38
                refine ⟨_, rfl, fun a_164 HE165 => hK162 _ _ ?_⟩
                refine pl_x HE165 HH163 (wt0 rfl) (x_assign rfl) rfl rfl fun a_166 HE167 => ?_
                refine wpList_nil ?_
                clear a_149 HE150 a_151 HE152 a_153 HE154 a_155 HE156 a_157 HE158 HH142 a_159 HE160 a_164 HE165 hK162 K_161
                refine nrm ?_
                refine wp_seq ?_
                refine wp_seq ?_
                refine rg ?_
                refine pl_x HE167 HH163 (wt0 rfl) (x_assign rfl) rfl rfl fun a_168 HE169 => ?_
                refine wpList_nil ?_
                clear a_166 HE167
                refine nrm ?_
                refine wp_block ?_
                refine lp (fun m a w' => ∃ (j : Nat) (A_9 : Option Addr) (c_9 : Nat) (S_9 : Nat → Prop), m = (valP (expTo (a1.take k) a0).2 (a1[k]?.getD 0) - (j : Int)).toNat ∧ Env 74 [(9, .slice A_9 (List.length (divE (a1[k]?.getD 0) j (expTo (a1.take k) a0).2)) c_9), (12, .int .i64 (j : Int)), (1, .slice A1 (a1.length) c1), (8, .slice A_8 ((List.length ((expTo (a1.take k) a0).1))) c_8), (10, .int .i64 ((k : Int))), (11, .int .i64 ((valP ((expTo (a1.take k) a0).2) e37)))] a ∧ Held Nob w [rSo eInt S_9 A_9 c_9 (divE (a1[k]?.getD 0) j (expTo (a1.take k) a0).2), rVec eInt 2 S_8 A_8 c_8 ((expTo (a1.take k) a0).1)] w' ∧ ((j : Int) ≤ valP (expTo (a1.take k) a0).2 (a1[k]?.getD 0))) ((valP (expTo (a1.take k) a0).2 (a1[k]?.getD 0) - ((0) : Int)).toNat) ?_ ?_
                · have E39 : divE (a1[k]?.getD 0) 0 (expTo (a1.take k) a0).2 = (expTo (a1.take k) a0).2 := by
                    first | rfl | simp
                  exact ⟨0, A_9, c_9, S_9, rfl, HE169.sub ⟨(by rw [E39]; rfl), (lkI rfl (by first | rfl | omega | (simp [hc22, hc23, hc25, p26_0, p26_1, hc27, p35_0, hc36, xe37]; done))), rfl, rfl, rfl, rfl, trivial⟩, ((HH163.sel [1, 0] (by decide) rfl).to (by first | rfl | (rw [E39]; done) | (rw [E39]; rfl) | (simp only [E39]; done) | (simp only [E39]; rfl))), (by first | omega | assumption | (simp; done) | simp_all)⟩
                · rintro m a_170 w' ⟨j, A_9, c_9, S_9, rfl, HE171, HH172, p40_0⟩
                  have hD := NatP_divE (p := a1[k]?.getD 0) (by omega) 800 _ j hR p40_0
                  have hD2 := hD.2.1
                  have hD1 := hD.1
                  refine wp_seq ?_
                  refine wp_seq ?_
                  refine rg ?_
                  refine pl_x HE171 HH172 (wt0 rfl) (x_move rfl) rfl rfl fun a_173 HE174 => ?_
                  refine pl_x HE174 HH172 (wt0 rfl) (x_move rfl) rfl rfl fun a_175 HE176 => ?_
                  refine pl_x HE176 HH172 (wt0 rfl) (x_lss rfl rfl) rfl rfl fun a_177 HE178 => ?_
                  refine wpList_nil ?_
                  clear a_168 HE169 HH163 a_170 HE171 a_173 HE174 a_175 HE176
                  refine nrm ?_
                  refine cnd_d HE178 rfl (fun hc41 => ?_) (fun hc41 => ?_)
                  · refine wp_skip ?_
                    refine nrm ?_
                    refine wp_seq ?_
                    refine wp_block ?_
                    refine wp_seq ?_
                    refine rg ?_
                    refine pl_x HE178 HH172 (wt0 rfl) (x_move rfl) rfl rfl fun a_179 HE180 => ?_
                    refine pl_x HE180 HH172 (wt0 rfl) (x_move rfl) rfl rfl fun a_181 HE182 => ?_
                    refine pl_x HE182 HH172 (wt0 rfl) (x_move rfl) rfl rfl fun a_183 HE184 => ?_
                    refine pl_x HE184 HH172 (wt0 rfl) (x_indexAddr ts_31 rfl rfl Ae37 rfl ke37) rfl rfl fun a_185 HE186 => ?_
                    refine pl_x HE186 HH172 (wt0 rfl) (x_load1 tv_2 rfl (c_old (De37 0 _ rfl))) rfl rfl fun a_187 HE188 => ?_
                    refine pl fun K_189 hK190 => ?_
                    refine st_call HE188 (wt0 rfl) rfl rfl rfl en_100 rfl rfl (spec_l02By _ _ (divE (a1[k]?.getD 0) j (expTo (a1.take k) a0).2) e37 _ (HH172.sl (i := 0) rfl) (by first | assumption | exact mulN_limbs _ _) (by omega) (by first | omega | exact Nat.le_trans (mulN_len (by assumption) (by intro x hx; simp at hx; omega)) (by simp; omega))) fun e w' hr => ?_
                    obtain ⟨Ar42_0, cr42_0, rfl, hor42_0, hbr42⟩ := hr
                    obtain ⟨Sr42, HH191⟩ := HH172.newS hbr42 hor42_0
                    refine ⟨_, rfl, fun a_192 HE193 => hK190 _ _ ?_⟩
                    refine pl_x HE193 HH191 (wt0 rfl) (x_move rfl) rfl rfl fun a_194 HE195 => ?_
                    refine pl_x HE195 HH191 (wt0 rfl) (x_extract rfl rfl) rfl rfl fun a_196 HE197 => ?_
                    refine pl_x HE197 HH191 (wt0 rfl) (x_extract rfl rfl) rfl rfl fun a_198 HE199 => ?_
                    refine pl_x HE199 HH191 (wt0 rfl) (x_assign rfl) rfl rfl fun a_200 HE201 => ?_
                    refine pl_x HE201 HH191 (wt0 rfl) (x_assign rfl) rfl rfl fun a_202 HE203 => ?_
                    refine wpList_nil ?_
                    clear a_177 HE178 a_179 HE180 a_181 HE182 a_183 HE184 a_185 HE186 HH172 a_187 HE188 a_192 HE193 a_194 HE195 a_196 HE197 a_198 HE199 a_200 HE201 hK190 K_189
                    refine nrm ?_
                    refine rg ?_
                    refine pl_x HE203 HH191 (wt0 rfl) (x_move rfl) rfl rfl fun a_204 HE205 => ?_
                    refine pl_x HE205 HH191 (wt0 rfl) (x_assign rfl) rfl rfl fun a_206 HE207 => ?_
                    refine wpList_nil ?_
                    clear a_202 HE203 a_204 HE205
                    refine blk_n ?_
                    refine nrm ?_
                    refine rg ?_
                    refine pl_x HE207 HH191 (wt0 rfl) (x_move rfl) rfl rfl fun a_208 HE209 => ?_
                    refine pl_x HE209 HH191 (wt0 rfl) (x_add rfl rfl (by exact ⟨by omega, by omega⟩)) rfl rfl fun a_210 HE211 => ?_
                    refine pl_x HE211 HH191 (wt0 rfl) (x_assign rfl) rfl rfl fun a_212 HE213 => ?_
                    refine wpList_nil ?_
                    clear a_206 HE207 a_208 HE209 a_210 HE211
                    have E43 : divE (a1[k]?.getD 0) (j + 1) (expTo (a1.take k) a0).2 = (divN (divE (a1[k]?.getD 0) j (expTo (a1.take k) a0).2) e37).1 := by
                      rw [divE_snoc, hp0]
                    exact nrm ⟨(valP (expTo (a1.take k) a0).2 (a1[k]?.getD 0) - ((j + 1) : Int)).toNat, (by rw [hp0] at *; omega), j + 1, Ar42_0, cr42_0, Sr42, rfl, HE213.sub ⟨(by rw [E43]; rfl), (lkI rfl (by first | rfl | omega | (simp [hc22, hc23, hc25, p26_0, p26_1, hc27, p35_0, hc36, xe37, p40_0, hc41]; done))), rfl, rfl, rfl, rfl, trivial⟩, ((HH191.sel [0, 2] (by decide) rfl).to (by first | rfl | (rw [E43]; done) | (rw [E43]; rfl) | (simp only [E43]; done) | (simp only [E43]; rfl))), (by rw [hp0] at *; omega)⟩
                  · refine wp_exit ?_
                    refine (thn_exit (thn_exit (blk_hit ?_)))
                    refine nrm ?_
                    refine rg ?_
                    refine pl_x HE178 HH172 (wt0 rfl) (x_move rfl) rfl rfl fun a_214 HE215 => ?_
                    refine pl_x HE215 HH172 (wt0 rfl) (x_move rfl) rfl rfl fun a_216 HE217 => ?_
                    refine pl fun K_218 hK219 => ?_
                    refine st_lit (m := 1) (cs := [.int .i64 ((valP ((expTo (a1.take k) a0).2) e37))]) (e := 2) HE217 HH172 (run_lit ts_31 HE217 (vs := [.int .i64 ((valP ((expTo (a1.take k) a0).2) e37))]) rfl rfl (by simp [Value.cells]) rfl (by decide)) (wt0 rfl) rfl rfl fun q44 a_220 w' HE221 HH222 => hK219 _ _ ?_
                    refine pl fun K_223 hK224 => ?_
                    refine st_app1F (valP ((expTo (a1.take k) a0).2) e37) HE221 HH222 ts_31 [2, 0, 1] (by decide) rfl (fun _ => (oI (by exact ⟨by omega, by omega⟩))) rfl rfl (by simp [Value.oneCell']) (by unfold maxLen; first | omega | (simp; done) | (simp; omega)) (by first | omega | (simp; done) | (simp; omega)) (wt0 rfl) rfl fun A45 c46 S47 a_225 w' HE226 HH227 => hK224 _ _ ?_
                    refine pl_x HE226 HH227 (wt0 rfl) (x_assign rfl) rfl rfl fun a_228 HE229 => ?_
                    refine wpList_nil ?_
                    clear a_177 HE178 a_214 HE215 a_216 HE217 HH172 K_218 hK219 a_220 HE221 HH222 a_225 HE226 hK224 K_223
                    refine blk_n ?_
                    refine nrm ?_
                    refine rg ?_
                    refine pl_x HE229 HH227 (wt0 rfl) (x_move rfl) rfl rfl fun a_230 HE231 => ?_
                    refine pl_x HE231 HH227 (wt0 rfl) (x_add rfl rfl (by exact ⟨by omega, by omega⟩)) rfl rfl fun a_232 HE233 => ?_
                    refine pl_x HE233 HH227 (wt0 rfl) (x_assign rfl) rfl rfl fun a_234 HE235 => ?_
                    refine wpList_nil ?_
                    clear a_228 HE229 a_230 HE231 a_232 HE233
                    have E48 : (expTo (a1.take (k + 1)) a0).1 = ((expTo (a1.take k) a0).1 ++ [(valP ((expTo (a1.take k) a0).2) e37)]) := by
                      rw [expTo_succ (by omega), ← xe37]; rfl
                    have E49 : (expTo (a1.take (k + 1)) a0).2 = divE (a1[k]?.getD 0) j (expTo (a1.take k) a0).2 := by
                      rw [expTo_succ (by omega), ← xe37]; show divE e37 (valP _ e37).toNat _ = _; rw [hp0, show (valP (expTo (a1.take k) a0).2 e37).toNat = j from by rw [hp0] at p40_0; omega]
                    exact nrm ⟨a1.length - (k + 1), (by omega), k + 1, A45, c46, S47, A_9, c_9, S_9, rfl, HE235.sub ⟨(by rw [E48]; rfl), (by rw [E49]; rfl), (lkI rfl (by first | rfl | omega | (simp [hc22, hc23, hc25, p26_0, p26_1, hc27, p35_0, hc36, xe37, p40_0, hc41]; done))), rfl, trivial⟩, ((HH227.sel [0, 1] (by decide) rfl).to (by first | rfl | (rw [E48, E49]; done) | (rw [E48, E49]; rfl) | (simp only [E48, E49]; done) | (simp only [E48, E49]; rfl))), (by first | omega | assumption | (simp; done) | simp_all)⟩
              · refine wp_exit ?_
                refine (thn_exit (thn_exit (blk_hit ?_)))
                refine nrm ?_
                refine wp_seq ?_
                refine rg ?_
                refine pl_x HE150 HH142 (wt0 rfl) (x_move rfl) rfl rfl fun a_236 HE237 => ?_
                refine pl_x HE237 HH142 (wt0 rfl) (x_move rfl) rfl rfl fun a_238 HE239 => ?_
                refine pl_x HE239 HH142 (wt0 rfl) (x_assign rfl) rfl rfl fun a_240 HE241 => ?_
                refine pl_x HE241 HH142 (wt0 rfl) (x_assign rfl) rfl rfl fun a_242 HE243 => ?_
                refine pl_x HE243 HH142 (wt0 rfl) (x_assign rfl) rfl rfl fun a_244 HE245 => ?_
                refine wpList_nil ?_
                clear a_149 HE150 a_236 HE237 a_238 HE239 a_240 HE241 a_242 HE243
                refine nrm ?_
                refine wp_ret ?_
                refine ret3 HE245 rfl (rv_tmp rfl) (rv_tmp rfl) (rv_tmp rfl) ?_
                have HH246 := HH142.vecSo
                have hF : (expsAt a0 a1) = ((expTo (a1.take k) a0).1, (expTo (a1.take k) a0).2, 0) := by
                  first | (simp [expsAt, hc22, hc23, hc25, p26_0, p26_1, hc27, p35_0, hc36]; done) | (unfold expsAt; rw [if_pos ‹_›, if_neg (by omega)]; done) | (unfold expsAt; rw [if_pos ‹_›, if_neg (by grind)]; done) | (unfold expsAt; rw [if_pos ‹_›, if_neg (by rw [any_hit (by omega : u < a1.length) (by rw [← xe0]; unfold notP; rw [hc36]; rfl)]; simp)]; done) | (unfold expsAt; rw [if_pos ‹_›, if_pos ⟨by omega, ‹_›, hq1⟩, show a1.take k = a1 from List.take_of_length_le (by omega)])
                exact ⟨_, _, _, _, _, _, by rw [hF] <;> rfl, by rw [hF]; exact HH246.sel [0, 1] (by decide) rfl⟩

set_option maxRecDepth 100000 in
set_option maxHeartbeats 4000000 in
theorem law_ExponentsAt (A0 : Option Addr) (c0 : Nat) (a0 : (List Int)) (A1 : Option Addr) (c1 : Nat) (a1 : (List Int)) (w : World) (h0 : Sl eInt w (Old w) A0 c0 a0) (h1 : Sl eInt w (Old w) A1 c1 a1) :
    Calls Try.prog 8 #[.slice A0 a0.length c0, .slice A1 a1.length c1] w fun e w' => e = .returned (.bool true) ∧ Below w.heap.size w w' := by
  have l0 := h0.len
  have l1 := h1.len
  have cl0 : cost_L a0 = a0.length := rfl
  have m0 := ct_cost_L a0
  have cl1 : cost_L a1 = a1.length := rfl
  have m1 := ct_cost_L a1
  have n0 : (ct_L (expsAt a0 a1).1 : Int) ≤ 1000000000 := (expsAt_ct a0 a1).1
  have n1 : (ct_L (expsAt a0 a1).2.1 : Int) ≤ 1000000000 := (expsAt_ct a0 a1).2
  have HH1 := Held.start Nob w
  refine enter (n := 151) Try.func8 rfl rfl rfl fun a_2 HE3 => ?_
  refine wp_seq ?_
  refine rg ?_
  refine pl_x HE3 HH1 (wt0 rfl) (x_assign rfl) rfl rfl fun a_4 HE5 => ?_
  refine wpList_nil ?_
  clear a_2 HE3
  refine nrm ?_
  refine wp_seq ?_
  refine wp_seq ?_
  refine rg ?_
  refine pl_x HE5 HH1 (wt0 rfl) (x_move rfl) rfl rfl fun a_6 HE7 => ?_
  refine pl_x HE7 HH1 (wt0 rfl) (x_len Try.underlying31 rfl) rfl rfl fun a_8 HE9 => ?_
  refine pl_x HE9 HH1 (wt0 rfl) (x_gtr rfl rfl) rfl rfl fun a_10 HE11 => ?_
  refine wpList_nil ?_
  clear a_4 HE5 a_6 HE7 a_8 HE9
  refine nrm ?_
  refine cnd_d HE11 rfl (fun hc21 => ?_) (fun hc21 => ?_)
  · refine wp_seq ?_
    refine rg ?_
    refine pl_x HE11 HH1 (wt0 rfl) (x_assign rfl) rfl rfl fun a_12 HE13 => ?_
    refine wpList_nil ?_
    clear a_10 HE11
    refine nrm ?_
    refine wp_ret ?_
    refine (thn_ret ?_)
    refine ret1 HE13 rfl (rv_tmp rfl) ?_
    have hF : true = true := by
      first | rfl | (exfalso; omega)
    exact ⟨by rw [hF] <;> rfl, HH1.below⟩
  · refine wp_skip ?_
    refine nrm ?_
    refine wp_seq ?_
    refine wp_seq ?_
    refine rg ?_
    refine pl_x HE11 HH1 (wt0 rfl) (x_move rfl) rfl rfl fun a_14 HE15 => ?_
    refine pl_x HE15 HH1 (wt0 rfl) (x_len Try.underlying31 rfl) rfl rfl fun a_16 HE17 => ?_
    refine pl_x HE17 HH1 (wt0 rfl) (x_gtr rfl rfl) rfl rfl fun a_18 HE19 => ?_
    refine wpList_nil ?_
    clear a_10 HE11 a_14 HE15 a_16 HE17
    refine nrm ?_
    refine cnd_d HE19 rfl (fun hc22 => ?_) (fun hc22 => ?_)
    · refine wp_seq ?_
      refine rg ?_
      refine pl_x HE19 HH1 (wt0 rfl) (x_assign rfl) rfl rfl fun a_20 HE21 => ?_
      refine wpList_nil ?_
      clear a_18 HE19
      refine nrm ?_
      refine wp_ret ?_
      refine (thn_ret ?_)
      refine ret1 HE21 rfl (rv_tmp rfl) ?_
      have hF : true = true := by
        first | rfl | (exfalso; omega)
      exact ⟨by rw [hF] <;> rfl, HH1.below⟩
    · refine wp_skip ?_
      refine nrm ?_
      refine wp_seq ?_
      refine rg ?_
      refine pl_x HE19 HH1 (wt0 rfl) (x_move rfl) rfl rfl fun a_22 HE23 => ?_
      refine pl fun K_24 hK25 => ?_
      refine st_call HE23 (wt0 rfl) rfl rfl rfl en_23 rfl rfl (to_Int64S _ _ a0 _ (HH1.old h0) (by omega)) fun e w' hr => ?_
      obtain ⟨Ar23, cr23, rfl, hor23, hbr23⟩ := hr
      obtain ⟨Sr23, HH26⟩ := HH1.newS hbr23 hor23
      clear hbr23 hor23
      refine ⟨_, rfl, fun a_27 HE28 => hK25 _ _ ?_⟩
      refine pl_x HE28 HH26 (wt0 rfl) (x_move rfl) rfl rfl fun a_29 HE30 => ?_
      refine pl fun K_31 hK32 => ?_
      refine st_call HE30 (wt0 rfl) rfl rfl rfl en_23 rfl rfl (to_Int64S _ _ a1 _ (HH26.old h1) (by omega)) fun e w' hr => ?_
      obtain ⟨Ar24, cr24, rfl, hor24, hbr24⟩ := hr
      obtain ⟨Sr24, HH33⟩ := HH26.newS hbr24 hor24
      clear hbr24 hor24
      refine ⟨_, rfl, fun a_34 HE35 => hK32 _ _ ?_⟩
      refine pl fun K_36 hK37 => ?_
      refine st_call HE35 (wt0 rfl) rfl rfl rfl en_44 rfl rfl (spec_ExponentsAt _ _ a0 _ _ a1 _ (HH33.sl (i := 1) rfl) (HH33.sl (i := 0) rfl)) fun e w' hr => ?_
      obtain ⟨Ar25_0, cr25_0, Sr25_0, Ar25_1, cr25_1, Sr25_1, rfl, hbr25⟩ := hr
      have HH38 := HH33.app hbr25
      clear hbr25
      have HH39 : Held Nob w ([rSo eInt Sr25_0 Ar25_0 cr25_0 ((expsAt a0 a1).1), rSo eInt Sr25_1 Ar25_1 cr25_1 ((expsAt a0 a1).2.1), rSo eInt Sr24 Ar24 cr24 a1, rSo eInt Sr23 Ar23 cr23 a0]) _ := HH38
      refine ⟨_, rfl, fun a_40 HE41 => hK37 _ _ ?_⟩
      refine pl_x HE41 HH39 (wt0 rfl) (x_move rfl) rfl rfl fun a_42 HE43 => ?_
      refine pl_x HE43 HH39 (wt0 rfl) (x_extract rfl rfl) rfl rfl fun a_44 HE45 => ?_
      refine pl_x HE45 HH39 (wt0 rfl) (x_extract rfl rfl) rfl rfl fun a_46 HE47 => ?_
      refine pl_x HE47 HH39 (wt0 rfl) (x_extract rfl rfl) rfl rfl fun a_48 HE49 => ?_
      refine pl_x HE49 HH39 (wt0 rfl) (x_assign rfl) rfl rfl fun a_50 HE51 => ?_
      refine pl_x HE51 HH39 (wt0 rfl) (x_assign rfl) rfl rfl fun a_52 HE53 => ?_
      refine pl_x HE53 HH39 (wt0 rfl) (x_assign rfl) rfl rfl fun a_54 HE55 => ?_
      refine wpList_nil ?_
      clear a_18 HE19 HH1 a_22 HE23 a_27 HE28 K_24 hK25 HH26 a_29 HE30 K_31 hK32 HH33 HH38 a_34 HE35 a_40 HE41 a_42 HE43 a_44 HE45 a_46 HE47 a_48 HE49 a_50 HE51 a_52 HE53 hK37 K_36
      refine nrm ?_
      refine wp_seq ?_
      refine rg ?_
      refine pl_x HE55 HH39 (wt0 rfl) (x_move rfl) rfl rfl fun a_56 HE57 => ?_
      refine pl fun K_58 hK59 => ?_
      refine st_call HE57 (wt0 rfl) rfl rfl rfl en_23 rfl rfl (to_Int64S _ _ a0 _ (HH39.old h0) (by omega)) fun e w' hr => ?_
      obtain ⟨Ar26, cr26, rfl, hor26, hbr26⟩ := hr
      obtain ⟨Sr26, HH60⟩ := HH39.newS hbr26 hor26
      clear hbr26 hor26
      refine ⟨_, rfl, fun a_61 HE62 => hK59 _ _ ?_⟩
      refine pl_x HE62 HH60 (wt0 rfl) (x_assign rfl) rfl rfl fun a_63 HE64 => ?_
      refine wpList_nil ?_
      clear a_54 HE55 HH39 a_56 HE57 a_61 HE62 hK59 K_58
      refine nrm ?_
      refine wp_seq ?_
      refine rg ?_
      refine pl_x HE64 HH60 (wt0 rfl) (x_move rfl) rfl rfl fun a_65 HE66 => ?_
      refine pl fun K_67 hK68 => ?_
      refine st_call HE66 (wt0 rfl) rfl rfl rfl en_23 rfl rfl (to_Int64S _ _ a1 _ (HH60.old h1) (by omega)) fun e w' hr => ?_
      obtain ⟨Ar27, cr27, rfl, hor27, hbr27⟩ := hr
      obtain ⟨Sr27, HH69⟩ := HH60.newS hbr27 hor27
      clear hbr27 hor27
      refine ⟨_, rfl, fun a_70 HE71 => hK68 _ _ ?_⟩
      refine pl_x HE71 HH69 (wt0 rfl) (x_assign rfl) rfl rfl fun a_72 HE73 => ?_
      refine wpList_nil ?_
      clear a_63 HE64 HH60 a_65 HE66 a_70 HE71 hK68 K_67
      refine nrm ?_
      refine wp_seq ?_
      refine rg ?_
      refine pl_x HE73 HH69 (wt0 rfl) (x_move rfl) rfl rfl fun a_74 HE75 => ?_
      refine pl_x HE75 HH69 (wt0 rfl) (x_move rfl) rfl rfl fun a_76 HE77 => ?_
      refine pl fun K_78 hK79 => ?_
      refine st_call HE77 (wt0 rfl) rfl rfl rfl en_45 rfl rfl (impl_ExponentsAt _ _ a0 _ _ a1 _ (HH69.sl (i := 1) rfl) (HH69.sl (i := 0) rfl)) fun e w' hr => ?_
      obtain ⟨Ar28_0, cr28_0, Sr28_0, Ar28_1, cr28_1, Sr28_1, rfl, hbr28⟩ := hr
      have HH80 := HH69.app hbr28
      clear hbr28
      have HH81 : Held Nob w ([rSo eInt Sr28_0 Ar28_0 cr28_0 ((expsAt a0 a1).1), rSo eInt Sr28_1 Ar28_1 cr28_1 ((expsAt a0 a1).2.1), rSo eInt Sr27 Ar27 cr27 a1, rSo eInt Sr26 Ar26 cr26 a0, rSo eInt Sr25_0 Ar25_0 cr25_0 ((expsAt a0 a1).1), rSo eInt Sr25_1 Ar25_1 cr25_1 ((expsAt a0 a1).2.1), rSo eInt Sr24 Ar24 cr24 a1, rSo eInt Sr23 Ar23 cr23 a0]) _ := HH80
      refine ⟨_, rfl, fun a_82 HE83 => hK79 _ _ ?_⟩
      refine pl_x HE83 HH81 (wt0 rfl) (x_move rfl) rfl rfl fun a_84 HE85 => ?_
      refine pl_x HE85 HH81 (wt0 rfl) (x_extract rfl rfl) rfl rfl fun a_86 HE87 => ?_
      refine pl_x HE87 HH81 (wt0 rfl) (x_extract rfl rfl) rfl rfl fun a_88 HE89 => ?_
      refine pl_x HE89 HH81 (wt0 rfl) (x_extract rfl rfl) rfl rfl fun a_90 HE91 => ?_
      refine pl_x HE91 HH81 (wt0 rfl) (x_assign rfl) rfl rfl fun a_92 HE93 => ?_
      refine pl_x HE93 HH81 (wt0 rfl) (x_assign rfl) rfl rfl fun a_94 HE95 => ?_
      refine pl_x HE95 HH81 (wt0 rfl) (x_assign rfl) rfl rfl fun a_96 HE97 => ?_
      refine wpList_nil ?_
      clear a_72 HE73 a_74 HE75 HH69 HH80 a_76 HE77 a_82 HE83 a_84 HE85 a_86 HE87 a_88 HE89 a_90 HE91 a_92 HE93 a_94 HE95 hK79 K_78
      refine nrm ?_
      refine wp_seq ?_
      refine wp_seq ?_
      refine rg ?_
      refine pl_x HE97 HH81 (wt0 rfl) (x_move rfl) rfl rfl fun a_98 HE99 => ?_
      refine pl_x HE99 HH81 (wt0 rfl) (x_move rfl) rfl rfl fun a_100 HE101 => ?_
      refine pl fun K_102 hK103 => ?_
      refine st_call HE101 (wt0 rfl) rfl rfl rfl en_26 rfl rfl (eq_L_c _ _ _ _ ((expsAt a0 a1).1) ((expsAt a0 a1).1) _ (HH81.sl (i := 0) rfl) (HH81.sl (i := 4) rfl)) fun e w' hr => ?_
      obtain ⟨rfl, hbr29⟩ := hr
      have HH104 := HH81.on hbr29
      clear hbr29
      refine ⟨_, rfl, fun a_105 HE106 => hK103 _ _ ?_⟩
      refine pl_x HE106 HH104 (wt0 rfl) (x_not rfl) rfl rfl fun a_107 HE108 => ?_
      refine pl_x HE108 HH104 (wt0 rfl) (x_move rfl) rfl rfl fun a_109 HE110 => ?_
      refine pl_x HE110 HH104 (wtT HE110 rfl rfl rfl (not_f (eq_L_refl _))) (x_move rfl) rfl rfl fun a_111 HE112 => ?_
      refine pl_x HE112 HH104 (wtT HE112 rfl rfl rfl (not_f (eq_L_refl _))) (x_move rfl) rfl rfl fun a_113 HE114 => ?_
      refine pl fun K_115 hK116 => ?_
      refine st_call HE114 (wtT HE114 rfl rfl rfl (not_f (eq_L_refl _))) rfl rfl rfl en_26 rfl rfl (eq_L_c _ _ _ _ ((expsAt a0 a1).2.1) ((expsAt a0 a1).2.1) _ (HH104.sl (i := 1) rfl) (HH104.sl (i := 5) rfl)) fun e w' hr => ?_
      obtain ⟨rfl, hbr30⟩ := hr
      have HH117 := HH104.on hbr30
      clear hbr30
      refine ⟨_, rfl, fun a_118 HE119 => hK116 _ _ ?_⟩
      refine pl_x HE119 HH117 (wtT HE119 rfl rfl rfl (not_f (eq_L_refl _))) (x_not rfl) rfl rfl fun a_120 HE121 => ?_
      refine pl_x HE121 HH117 (wt0 rfl) (x_pickF rfl (not_f (eq_L_refl _)) rfl) rfl rfl fun a_122 HE123 => ?_
      refine pl_x HE123 HH117 (wt0 rfl) (x_move rfl) rfl rfl fun a_124 HE125 => ?_
      refine pl_x HE125 HH117 (wtT HE125 rfl rfl rfl (not_f (eq_L_refl _))) (x_move rfl) rfl rfl fun a_126 HE127 => ?_
      refine pl_x HE127 HH117 (wtT HE127 rfl rfl rfl (not_f (eq_L_refl _))) (x_move rfl) rfl rfl fun a_128 HE129 => ?_
      refine pl_x HE129 HH117 (wtT HE129 rfl rfl rfl (not_f (eq_L_refl _))) (x_neq rfl rfl) rfl rfl fun a_130 HE131 => ?_
      refine pl_x HE131 HH117 (wt0 rfl) (x_pickF rfl (not_f (eq_L_refl _)) rfl) rfl rfl fun a_132 HE133 => ?_
      refine wpList_nil ?_
      clear a_96 HE97 a_98 HE99 HH81 a_100 HE101 a_105 HE106 a_107 HE108 a_109 HE110 a_111 HE112 K_102 hK103 HH104 a_113 HE114 a_118 HE119 a_120 HE121 a_122 HE123 a_124 HE125 a_126 HE127 a_128 HE129 a_130 HE131 hK116 K_115
      refine nrm ?_
      refine cndF HE133 rfl (bne_f rfl) ?_
      refine wp_skip ?_
      refine nrm ?_
      refine wp_seq ?_
      refine wp_seq ?_
      refine rg ?_
      refine pl_x HE133 HH117 (wt0 rfl) (x_move rfl) rfl rfl fun a_134 HE135 => ?_
      refine pl_x HE135 HH117 (wt0 rfl) (x_move rfl) rfl rfl fun a_136 HE137 => ?_
      refine pl fun K_138 hK139 => ?_
      refine st_call HE137 (wt0 rfl) rfl rfl rfl en_23 rfl rfl (to_Int64S _ _ a0 _ (HH117.old h0) (by omega)) fun e w' hr => ?_
      obtain ⟨Ar31, cr31, rfl, hor31, hbr31⟩ := hr
      obtain ⟨Sr31, HH140⟩ := HH117.newS hbr31 hor31
      clear hbr31 hor31
      refine ⟨_, rfl, fun a_141 HE142 => hK139 _ _ ?_⟩
      refine pl fun K_143 hK144 => ?_
      refine st_call HE142 (wt0 rfl) rfl rfl rfl en_26 rfl rfl (eq_L_c _ _ _ _ a0 a0 _ (HH140.sl (i := 4) rfl) (HH140.sl (i := 0) rfl)) fun e w' hr => ?_
      obtain ⟨rfl, hbr32⟩ := hr
      have HH145 := HH140.on hbr32
      clear hbr32
      refine ⟨_, rfl, fun a_146 HE147 => hK144 _ _ ?_⟩
      refine pl_x HE147 HH145 (wt0 rfl) (x_not rfl) rfl rfl fun a_148 HE149 => ?_
      refine wpList_nil ?_
      clear a_132 HE133 a_134 HE135 HH117 a_136 HE137 K_138 hK139 HH140 a_141 HE142 a_146 HE147 hK144 K_143
      refine nrm ?_
      refine cndF HE149 rfl (not_f (eq_L_refl _)) ?_
      refine wp_skip ?_
      refine nrm ?_
      refine wp_seq ?_
      refine wp_seq ?_
      refine rg ?_
      refine pl_x HE149 HH145 (wt0 rfl) (x_move rfl) rfl rfl fun a_150 HE151 => ?_
      refine pl_x HE151 HH145 (wt0 rfl) (x_move rfl) rfl rfl fun a_152 HE153 => ?_
      refine pl fun K_154 hK155 => ?_
      refine st_call HE153 (wt0 rfl) rfl rfl rfl en_23 rfl rfl (to_Int64S _ _ a1 _ (HH145.old h1) (by omega)) fun e w' hr => ?_
      obtain ⟨Ar33, cr33, rfl, hor33, hbr33⟩ := hr
      obtain ⟨Sr33, HH156⟩ := HH145.newS hbr33 hor33
      clear hbr33 hor33
      refine ⟨_, rfl, fun a_157 HE158 => hK155 _ _ ?_⟩
      refine pl fun K_159 hK160 => ?_
      refine st_call HE158 (wt0 rfl) rfl rfl rfl en_26 rfl rfl (eq_L_c _ _ _ _ a1 a1 _ (HH156.sl (i := 4) rfl) (HH156.sl (i := 0) rfl)) fun e w' hr => ?_
      obtain ⟨rfl, hbr34⟩ := hr
      have HH161 := HH156.on hbr34
      clear hbr34
      refine ⟨_, rfl, fun a_162 HE163 => hK160 _ _ ?_⟩
      refine pl_x HE163 HH161 (wt0 rfl) (x_not rfl) rfl rfl fun a_164 HE165 => ?_
      refine wpList_nil ?_
      clear a_148 HE149 a_150 HE151 HH145 a_152 HE153 K_154 hK155 HH156 a_157 HE158 a_162 HE163 hK160 K_159
      refine nrm ?_
      refine cndF HE165 rfl (not_f (eq_L_refl _)) ?_
      refine wp_skip ?_
      refine nrm ?_
      refine wp_seq ?_
      refine rg ?_
      refine pl_x HE165 HH161 (wt0 rfl) (x_assign rfl) rfl rfl fun a_166 HE167 => ?_
      refine wpList_nil ?_
      clear a_164 HE165
      refine nrm ?_
      refine wp_seq ?_
      refine rg ?_
      refine pl_x HE167 HH161 (wt0 rfl) (x_move rfl) rfl rfl fun a_168 HE169 => ?_
      refine pl_x HE169 HH161 (wt0 rfl) (x_move rfl) rfl rfl fun a_170 HE171 => ?_
      refine pl fun K_172 hK173 => ?_
      refine st_call HE171 (wt0 rfl) rfl rfl rfl en_34 rfl rfl (mark_L_c _ _ a0 1 _ _ (so_of_o (HH161.get (i := 5) rfl)) (HH161.lt (i := 5) rfl) (by omega) (by omega)) fun e w' hr => ?_
      obtain ⟨rfl, hsr35, hcr35⟩ := hr
      have HH174 := HH161.mut (i := 5) rfl hcr35 (rSo eInt Sr26 Ar26 cr26 (mk_L a0 1)) (oSl hsr35) (fun b hb => .inl hb)
      clear hsr35 hcr35
      refine ⟨_, rfl, fun a_175 HE176 => hK173 _ _ ?_⟩
      refine pl_x HE176 HH174 (wt0 rfl) (x_assign rfl) rfl rfl fun a_177 HE178 => ?_
      refine wpList_nil ?_
      clear a_166 HE167 a_168 HE169 HH161 a_170 HE171 a_175 HE176 hK173 K_172
      refine nrm ?_
      refine wp_seq ?_
      refine rg ?_
      refine pl_x HE178 HH174 (wt0 rfl) (x_move rfl) rfl rfl fun a_179 HE180 => ?_
      refine pl_x HE180 HH174 (wt0 rfl) (x_move rfl) rfl rfl fun a_181 HE182 => ?_
      refine pl fun K_183 hK184 => ?_
      refine st_call HE182 (wt0 rfl) rfl rfl rfl en_34 rfl rfl (mark_L_c _ _ a1 (1 + (ct_L a0 : Int)) _ _ (so_of_o (HH174.get (i := 4) rfl)) (HH174.lt (i := 4) rfl) (by omega) (by omega)) fun e w' hr => ?_
      obtain ⟨rfl, hsr36, hcr36⟩ := hr
      have HH185 := HH174.mut (i := 4) rfl hcr36 (rSo eInt Sr27 Ar27 cr27 (mk_L a1 (1 + (ct_L a0 : Int)))) (oSl hsr36) (fun b hb => .inl hb)
      clear hsr36 hcr36
      refine ⟨_, rfl, fun a_186 HE187 => hK184 _ _ ?_⟩
      refine pl_x HE187 HH185 (wt0 rfl) (x_assign rfl) rfl rfl fun a_188 HE189 => ?_
      refine wpList_nil ?_
      clear a_177 HE178 a_179 HE180 HH174 a_181 HE182 a_186 HE187 hK184 K_183
      refine nrm ?_
      refine wp_seq ?_
      refine wp_seq ?_
      refine rg ?_
      refine pl_x HE189 HH185 (wt0 rfl) (x_move rfl) rfl rfl fun a_190 HE191 => ?_
      refine pl_x HE191 HH185 (wt0 rfl) (x_lss rfl rfl) rfl rfl fun a_192 HE193 => ?_
      refine pl_x HE193 HH185 (wt0 rfl) (x_move rfl) rfl rfl fun a_194 HE195 => ?_
      by_cases hc37 : ((1 + (ct_L a0 : Int)) + (ct_L a1 : Int)) < 0
      · refine pl_no HE195 (wtF HE195 rfl rfl rfl (decide_eq_true hc37)) rfl rfl fun a_196 HE197 => ?_
        refine pl_no HE197 (wtF HE197 rfl rfl rfl (decide_eq_true hc37)) rfl rfl fun a_198 HE199 => ?_
        refine pl_no HE199 (wtF HE199 rfl rfl rfl (decide_eq_true hc37)) rfl rfl fun a_200 HE201 => ?_
        refine pl_no HE201 (wtF HE201 rfl rfl rfl (decide_eq_true hc37)) rfl rfl fun a_202 HE203 => ?_
        refine pl_x HE203 HH185 (wt0 rfl) (x_pickT rfl (decide_eq_true hc37) rfl) rfl rfl fun a_204 HE205 => ?_
        refine pl_x HE205 HH185 (wt0 rfl) (x_move rfl) rfl rfl fun a_206 HE207 => ?_
        refine pl_no HE207 (wtF HE207 rfl rfl rfl rfl) rfl rfl fun a_208 HE209 => ?_
        refine pl_no HE209 (wtF HE209 rfl rfl rfl rfl) rfl rfl fun a_210 HE211 => ?_
        refine pl_no HE211 (wtF HE211 rfl rfl rfl rfl) rfl rfl fun a_212 HE213 => ?_
        refine pl_no HE213 (wtF HE213 rfl rfl rfl rfl) rfl rfl fun a_214 HE215 => ?_
        refine pl_x HE215 HH185 (wt0 rfl) (x_pickT rfl rfl rfl) rfl rfl fun a_216 HE217 => ?_
        refine pl_x HE217 HH185 (wt0 rfl) (x_move rfl) rfl rfl fun a_218 HE219 => ?_
        refine pl_no HE219 (wtF HE219 rfl rfl rfl rfl) rfl rfl fun a_220 HE221 => ?_
        refine pl_no HE221 (wtF HE221 rfl rfl rfl rfl) rfl rfl fun a_222 HE223 => ?_
        refine pl_no HE223 (wtF HE223 rfl rfl rfl rfl) rfl rfl fun a_224 HE225 => ?_
        refine pl_x HE225 HH185 (wt0 rfl) (x_pickT rfl rfl rfl) rfl rfl fun a_226 HE227 => ?_
        refine wpList_nil ?_
        clear a_188 HE189 a_190 HE191 a_192 HE193 a_194 HE195 a_196 HE197 a_198 HE199 a_200 HE201 a_202 HE203 a_204 HE205 a_206 HE207 a_208 HE209 a_210 HE211 a_212 HE213 a_214 HE215 a_216 HE217 a_218 HE219 a_220 HE221 a_222 HE223 a_224 HE225
        refine nrm ?_
        refine cndT HE227 rfl rfl ?_
        refine wp_seq ?_
        refine rg ?_
        refine pl_x HE227 HH185 (wt0 rfl) (x_assign rfl) rfl rfl fun a_228 HE229 => ?_
        refine wpList_nil ?_
        clear a_226 HE227
        refine nrm ?_
        refine wp_ret ?_
        refine (thn_ret ?_)
        refine ret1 HE229 rfl (rv_tmp rfl) ?_
        have hF : true = false := by
          first | rfl | (exfalso; omega)
        exact ⟨by rw [hF] <;> rfl, HH185.below⟩
      · refine pl_x HE195 HH185 (wtT HE195 rfl rfl rfl (decide_eq_false hc37)) (x_move rfl) rfl rfl fun a_230 HE231 => ?_
        refine pl_x HE231 HH185 (wtT HE231 rfl rfl rfl (decide_eq_false hc37)) (x_move rfl) rfl rfl fun a_232 HE233 => ?_
        refine pl fun K_234 hK235 => ?_
        refine st_call HE233 (wtT HE233 rfl rfl rfl (decide_eq_false hc37)) rfl rfl rfl en_26 rfl rfl (eq_L_c _ _ _ _ ((expsAt a0 a1).1) ((expsAt a0 a1).1) _ (HH185.sl (i := 2) rfl) (HH185.sl (i := 6) rfl)) fun e w' hr => ?_
        obtain ⟨rfl, hbr38⟩ := hr
        have HH236 := HH185.on hbr38
        clear hbr38
        refine ⟨_, rfl, fun a_237 HE238 => hK235 _ _ ?_⟩
        refine pl_x HE238 HH236 (wtT HE238 rfl rfl rfl (decide_eq_false hc37)) (x_not rfl) rfl rfl fun a_239 HE240 => ?_
        refine pl_x HE240 HH236 (wt0 rfl) (x_pickF rfl (decide_eq_false hc37) rfl) rfl rfl fun a_241 HE242 => ?_
        refine pl_x HE242 HH236 (wt0 rfl) (x_move rfl) rfl rfl fun a_243 HE244 => ?_
        refine pl_x HE244 HH236 (wtT HE244 rfl rfl rfl (not_f (eq_L_refl _))) (x_move rfl) rfl rfl fun a_245 HE246 => ?_
        refine pl_x HE246 HH236 (wtT HE246 rfl rfl rfl (not_f (eq_L_refl _))) (x_move rfl) rfl rfl fun a_247 HE248 => ?_
        refine pl fun K_249 hK250 => ?_
        refine st_call HE248 (wtT HE248 rfl rfl rfl (not_f (eq_L_refl _))) rfl rfl rfl en_26 rfl rfl (eq_L_c _ _ _ _ ((expsAt a0 a1).2.1) ((expsAt a0 a1).2.1) _ (HH236.sl (i := 3) rfl) (HH236.sl (i := 7) rfl)) fun e w' hr => ?_
        obtain ⟨rfl, hbr39⟩ := hr
        have HH251 := HH236.on hbr39
        clear hbr39
        refine ⟨_, rfl, fun a_252 HE253 => hK250 _ _ ?_⟩
        refine pl_x HE253 HH251 (wtT HE253 rfl rfl rfl (not_f (eq_L_refl _))) (x_not rfl) rfl rfl fun a_254 HE255 => ?_
        refine pl_x HE255 HH251 (wt0 rfl) (x_pickF rfl (not_f (eq_L_refl _)) rfl) rfl rfl fun a_256 HE257 => ?_
        refine pl_x HE257 HH251 (wt0 rfl) (x_move rfl) rfl rfl fun a_258 HE259 => ?_
        refine pl_x HE259 HH251 (wtT HE259 rfl rfl rfl (not_f (eq_L_refl _))) (x_move rfl) rfl rfl fun a_260 HE261 => ?_
        refine pl_x HE261 HH251 (wtT HE261 rfl rfl rfl (not_f (eq_L_refl _))) (x_move rfl) rfl rfl fun a_262 HE263 => ?_
        refine pl_x HE263 HH251 (wtT HE263 rfl rfl rfl (not_f (eq_L_refl _))) (x_neq rfl rfl) rfl rfl fun a_264 HE265 => ?_
        refine pl_x HE265 HH251 (wt0 rfl) (x_pickF rfl (not_f (eq_L_refl _)) rfl) rfl rfl fun a_266 HE267 => ?_
        refine wpList_nil ?_
        clear a_188 HE189 a_190 HE191 a_192 HE193 a_194 HE195 a_230 HE231 HH185 a_232 HE233 a_237 HE238 a_239 HE240 a_241 HE242 a_243 HE244 a_245 HE246 K_234 hK235 HH236 a_247 HE248 a_252 HE253 a_254 HE255 a_256 HE257 a_258 HE259 a_260 HE261 a_262 HE263 a_264 HE265 hK250 K_249
        refine nrm ?_
        refine cndF HE267 rfl (bne_f rfl) ?_
        refine wp_skip ?_
        refine nrm ?_
        refine wp_seq ?_
        refine rg ?_
        refine pl_x HE267 HH251 (wt0 rfl) (x_assign rfl) rfl rfl fun a_268 HE269 => ?_
        refine wpList_nil ?_
        clear a_266 HE267
        refine nrm ?_
        refine wp_seq ?_
        refine rg ?_
        refine pl_x HE269 HH251 (wt0 rfl) (x_move rfl) rfl rfl fun a_270 HE271 => ?_
        refine pl_x HE271 HH251 (wt0 rfl) (x_move rfl) rfl rfl fun a_272 HE273 => ?_
        refine pl fun K_274 hK275 => ?_
        refine st_call HE273 (wt0 rfl) rfl rfl rfl en_34 rfl rfl (mark_L_c _ _ ((expsAt a0 a1).1) 1 _ _ (so_of_o (HH251.get (i := 2) rfl)) (HH251.lt (i := 2) rfl) (by omega) (by omega)) fun e w' hr => ?_
        obtain ⟨rfl, hsr40, hcr40⟩ := hr
        have HH276 := HH251.mut (i := 2) rfl hcr40 (rSo eInt Sr28_0 Ar28_0 cr28_0 (mk_L ((expsAt a0 a1).1) 1)) (oSl hsr40) (fun b hb => .inl hb)
        clear hsr40 hcr40
        refine ⟨_, rfl, fun a_277 HE278 => hK275 _ _ ?_⟩
        refine pl_x HE278 HH276 (wt0 rfl) (x_assign rfl) rfl rfl fun a_279 HE280 => ?_
        refine wpList_nil ?_
        clear a_268 HE269 a_270 HE271 HH251 a_272 HE273 a_277 HE278 hK275 K_274
        refine nrm ?_
        refine wp_seq ?_
        refine rg ?_
        refine pl_x HE280 HH276 (wt0 rfl) (x_move rfl) rfl rfl fun a_281 HE282 => ?_
        refine pl_x HE282 HH276 (wt0 rfl) (x_move rfl) rfl rfl fun a_283 HE284 => ?_
        refine pl fun K_285 hK286 => ?_
        refine st_call HE284 (wt0 rfl) rfl rfl rfl en_34 rfl rfl (mark_L_c _ _ ((expsAt a0 a1).2.1) (1 + (ct_L ((expsAt a0 a1).1) : Int)) _ _ (so_of_o (HH276.get (i := 3) rfl)) (HH276.lt (i := 3) rfl) (by omega) (by omega)) fun e w' hr => ?_
        obtain ⟨rfl, hsr41, hcr41⟩ := hr
        have HH287 := HH276.mut (i := 3) rfl hcr41 (rSo eInt Sr28_1 Ar28_1 cr28_1 (mk_L ((expsAt a0 a1).2.1) (1 + (ct_L ((expsAt a0 a1).1) : Int)))) (oSl hsr41) (fun b hb => .inl hb)
        clear hsr41 hcr41
        refine ⟨_, rfl, fun a_288 HE289 => hK286 _ _ ?_⟩
        refine pl_x HE289 HH287 (wt0 rfl) (x_assign rfl) rfl rfl fun a_290 HE291 => ?_
        refine wpList_nil ?_
        clear a_279 HE280 a_281 HE282 HH276 a_283 HE284 a_288 HE289 hK286 K_285
        refine nrm ?_
        refine wp_seq ?_
        refine rg ?_
        refine pl_x HE291 HH287 (wt0 rfl) (x_assign rfl) rfl rfl fun a_292 HE293 => ?_
        refine wpList_nil ?_
        clear a_290 HE291
        refine nrm ?_
        refine wp_seq ?_
        refine rg ?_
        refine pl_x HE293 HH287 (wt0 rfl) (x_move rfl) rfl rfl fun a_294 HE295 => ?_
        refine pl_x HE295 HH287 (wt0 rfl) (x_move rfl) rfl rfl fun a_296 HE297 => ?_
        refine pl fun K_298 hK299 => ?_
        refine st_call HE297 (wt0 rfl) rfl rfl rfl en_46 rfl rfl (held_L_c _ _ ((expsAt a0 a1).1) 1 _ (HH287.sl (i := 2) rfl) (by omega) (by omega)) fun e w' hr => ?_
        obtain ⟨rfl, hbr42⟩ := hr
        have HH300 := HH287.on hbr42
        clear hbr42
        refine ⟨_, rfl, fun a_301 HE302 => hK299 _ _ ?_⟩
        refine pl_x HE302 HH300 (wt0 rfl) (x_assign rfl) rfl rfl fun a_303 HE304 => ?_
        refine wpList_nil ?_
        clear a_292 HE293 a_294 HE295 HH287 a_296 HE297 a_301 HE302 hK299 K_298
        refine nrm ?_
        refine wp_seq ?_
        refine wp_seq ?_
        refine rg ?_
        refine pl_x HE304 HH300 (wt0 rfl) (x_move rfl) rfl rfl fun a_305 HE306 => ?_
        refine pl_x HE306 HH300 (wt0 rfl) (x_lss rfl rfl) rfl rfl fun a_307 HE308 => ?_
        refine wpList_nil ?_
        clear a_303 HE304 a_305 HE306
        refine nrm ?_
        refine cnd_d HE308 rfl (fun hc43 => ?_) (fun hc43 => ?_)
        · refine wp_seq ?_
          refine rg ?_
          refine pl_x HE308 HH300 (wt0 rfl) (x_assign rfl) rfl rfl fun a_309 HE310 => ?_
          refine wpList_nil ?_
          clear a_307 HE308
          refine nrm ?_
          refine wp_ret ?_
          refine (thn_ret ?_)
          refine ret1 HE310 rfl (rv_tmp rfl) ?_
          have hF : true = false := by
            first | rfl | (exfalso; omega)
          exact ⟨by rw [hF] <;> rfl, HH300.below⟩
        · refine wp_skip ?_
          refine nrm ?_
          refine wp_seq ?_
          refine rg ?_
          refine pl_x HE308 HH300 (wt0 rfl) (x_move rfl) rfl rfl fun a_311 HE312 => ?_
          refine pl_x HE312 HH300 (wt0 rfl) (x_move rfl) rfl rfl fun a_313 HE314 => ?_
          refine pl fun K_315 hK316 => ?_
          refine st_call HE314 (wt0 rfl) rfl rfl rfl en_46 rfl rfl (held_L_c _ _ ((expsAt a0 a1).2.1) (1 + (ct_L ((expsAt a0 a1).1) : Int)) _ (HH300.sl (i := 3) rfl) (by omega) (by omega)) fun e w' hr => ?_
          obtain ⟨rfl, hbr44⟩ := hr
          have HH317 := HH300.on hbr44
          clear hbr44
          refine ⟨_, rfl, fun a_318 HE319 => hK316 _ _ ?_⟩
          refine pl_x HE319 HH317 (wt0 rfl) (x_assign rfl) rfl rfl fun a_320 HE321 => ?_
          refine wpList_nil ?_
          clear a_307 HE308 a_311 HE312 HH300 a_313 HE314 a_318 HE319 hK316 K_315
          refine nrm ?_
          refine wp_seq ?_
          refine wp_seq ?_
          refine rg ?_
          refine pl_x HE321 HH317 (wt0 rfl) (x_move rfl) rfl rfl fun a_322 HE323 => ?_
          refine pl_x HE323 HH317 (wt0 rfl) (x_lss rfl rfl) rfl rfl fun a_324 HE325 => ?_
          refine wpList_nil ?_
          clear a_320 HE321 a_322 HE323
          refine nrm ?_
          refine cnd_d HE325 rfl (fun hc45 => ?_) (fun hc45 => ?_)
          · refine wp_seq ?_
            refine rg ?_
            refine pl_x HE325 HH317 (wt0 rfl) (x_assign rfl) rfl rfl fun a_326 HE327 => ?_
            refine wpList_nil ?_
            clear a_324 HE325
            refine nrm ?_
            refine wp_ret ?_
            refine (thn_ret ?_)
            refine ret1 HE327 rfl (rv_tmp rfl) ?_
            have hF : true = false := by
              first | rfl | (exfalso; omega)
            exact ⟨by rw [hF] <;> rfl, HH317.below⟩
          · refine wp_skip ?_
            refine nrm ?_
            refine wp_seq ?_
            refine wp_seq ?_
            refine rg ?_
            refine pl_x HE325 HH317 (wt0 rfl) (x_move rfl) rfl rfl fun a_328 HE329 => ?_
            refine pl_x HE329 HH317 (wt0 rfl) (x_move rfl) rfl rfl fun a_330 HE331 => ?_
            refine pl_x HE331 HH317 (wt0 rfl) (x_neq rfl rfl) rfl rfl fun a_332 HE333 => ?_
            refine wpList_nil ?_
            clear a_324 HE325 a_328 HE329 a_330 HE331
            refine nrm ?_
            refine cndF HE333 rfl (bne_f rfl) ?_
            refine wp_skip ?_
            refine nrm ?_
            refine wp_seq ?_
            refine rg ?_
            refine pl_x HE333 HH317 (wt0 rfl) (x_move rfl) rfl rfl fun a_334 HE335 => ?_
            refine pl fun K_336 hK337 => ?_
            refine st_call HE335 (wt0 rfl) rfl rfl rfl en_23 rfl rfl (to_Int64S _ _ a0 _ (HH317.old h0) (by omega)) fun e w' hr => ?_
            obtain ⟨Ar46, cr46, rfl, hor46, hbr46⟩ := hr
            obtain ⟨Sr46, HH338⟩ := HH317.newS hbr46 hor46
            clear hbr46 hor46
            refine ⟨_, rfl, fun a_339 HE340 => hK337 _ _ ?_⟩
            refine pl_x HE340 HH338 (wt0 rfl) (x_move rfl) rfl rfl fun a_341 HE342 => ?_
            refine pl fun K_343 hK344 => ?_
            refine st_call HE342 (wt0 rfl) rfl rfl rfl en_23 rfl rfl (to_Int64S _ _ a1 _ (HH338.old h1) (by omega)) fun e w' hr => ?_
            obtain ⟨Ar47, cr47, rfl, hor47, hbr47⟩ := hr
            obtain ⟨Sr47, HH345⟩ := HH338.newS hbr47 hor47
            clear hbr47 hor47
            refine ⟨_, rfl, fun a_346 HE347 => hK344 _ _ ?_⟩
            refine pl fun K_348 hK349 => ?_
            refine st_call HE347 (wt0 rfl) rfl rfl rfl en_45 rfl rfl (impl_ExponentsAt _ _ a0 _ _ a1 _ (HH345.sl (i := 1) rfl) (HH345.sl (i := 0) rfl)) fun e w' hr => ?_
            obtain ⟨Ar48_0, cr48_0, Sr48_0, Ar48_1, cr48_1, Sr48_1, rfl, hbr48⟩ := hr
            have HH350 := HH345.app hbr48
            clear hbr48
            have HH351 : Held Nob w ([rSo eInt Sr48_0 Ar48_0 cr48_0 ((expsAt a0 a1).1), rSo eInt Sr48_1 Ar48_1 cr48_1 ((expsAt a0 a1).2.1), rSo eInt Sr47 Ar47 cr47 a1, rSo eInt Sr46 Ar46 cr46 a0, rSo eInt Sr33 Ar33 cr33 a1, rSo eInt Sr31 Ar31 cr31 a0, rSo eInt Sr28_0 Ar28_0 cr28_0 (mk_L ((expsAt a0 a1).1) 1), rSo eInt Sr28_1 Ar28_1 cr28_1 (mk_L ((expsAt a0 a1).2.1) (1 + (ct_L ((expsAt a0 a1).1) : Int))), rSo eInt Sr27 Ar27 cr27 (mk_L a1 (1 + (ct_L a0 : Int))), rSo eInt Sr26 Ar26 cr26 (mk_L a0 1), rSo eInt Sr25_0 Ar25_0 cr25_0 ((expsAt a0 a1).1), rSo eInt Sr25_1 Ar25_1 cr25_1 ((expsAt a0 a1).2.1), rSo eInt Sr24 Ar24 cr24 a1, rSo eInt Sr23 Ar23 cr23 a0]) _ := HH350
            refine ⟨_, rfl, fun a_352 HE353 => hK349 _ _ ?_⟩
            refine pl_x HE353 HH351 (wt0 rfl) (x_move rfl) rfl rfl fun a_354 HE355 => ?_
            refine pl_x HE355 HH351 (wt0 rfl) (x_extract rfl rfl) rfl rfl fun a_356 HE357 => ?_
            refine pl_x HE357 HH351 (wt0 rfl) (x_extract rfl rfl) rfl rfl fun a_358 HE359 => ?_
            refine pl_x HE359 HH351 (wt0 rfl) (x_extract rfl rfl) rfl rfl fun a_360 HE361 => ?_
            refine pl_x HE361 HH351 (wt0 rfl) (x_assign rfl) rfl rfl fun a_362 HE363 => ?_
            refine pl_x HE363 HH351 (wt0 rfl) (x_assign rfl) rfl rfl fun a_364 HE365 => ?_
            refine pl_x HE365 HH351 (wt0 rfl) (x_assign rfl) rfl rfl fun a_366 HE367 => ?_
            refine wpList_nil ?_
            clear a_332 HE333 HH317 a_334 HE335 a_339 HE340 K_336 hK337 HH338 a_341 HE342 K_343 hK344 HH345 HH350 a_346 HE347 a_352 HE353 a_354 HE355 a_356 HE357 a_358 HE359 a_360 HE361 a_362 HE363 a_364 HE365 hK349 K_348
            refine nrm ?_
            refine wp_seq ?_
            refine wp_seq ?_
            refine rg ?_
            refine pl_x HE367 HH351 (wt0 rfl) (x_move rfl) rfl rfl fun a_368 HE369 => ?_
            refine pl_x HE369 HH351 (wt0 rfl) (x_move rfl) rfl rfl fun a_370 HE371 => ?_
            refine pl fun K_372 hK373 => ?_
            refine st_call HE371 (wt0 rfl) rfl rfl rfl en_26 rfl rfl (eq_L_c _ _ _ _ ((expsAt a0 a1).1) ((expsAt a0 a1).1) _ (HH351.sl (i := 0) rfl) (HH351.sl (i := 10) rfl)) fun e w' hr => ?_
            obtain ⟨rfl, hbr49⟩ := hr
            have HH374 := HH351.on hbr49
            clear hbr49
            refine ⟨_, rfl, fun a_375 HE376 => hK373 _ _ ?_⟩
            refine pl_x HE376 HH374 (wt0 rfl) (x_not rfl) rfl rfl fun a_377 HE378 => ?_
            refine pl_x HE378 HH374 (wt0 rfl) (x_move rfl) rfl rfl fun a_379 HE380 => ?_
            refine pl_x HE380 HH374 (wtT HE380 rfl rfl rfl (not_f (eq_L_refl _))) (x_move rfl) rfl rfl fun a_381 HE382 => ?_
            refine pl_x HE382 HH374 (wtT HE382 rfl rfl rfl (not_f (eq_L_refl _))) (x_move rfl) rfl rfl fun a_383 HE384 => ?_
            refine pl fun K_385 hK386 => ?_
            refine st_call HE384 (wtT HE384 rfl rfl rfl (not_f (eq_L_refl _))) rfl rfl rfl en_26 rfl rfl (eq_L_c _ _ _ _ ((expsAt a0 a1).2.1) ((expsAt a0 a1).2.1) _ (HH374.sl (i := 1) rfl) (HH374.sl (i := 11) rfl)) fun e w' hr => ?_
            obtain ⟨rfl, hbr50⟩ := hr
            have HH387 := HH374.on hbr50
            clear hbr50
            refine ⟨_, rfl, fun a_388 HE389 => hK386 _ _ ?_⟩
            refine pl_x HE389 HH387 (wtT HE389 rfl rfl rfl (not_f (eq_L_refl _))) (x_not rfl) rfl rfl fun a_390 HE391 => ?_
            refine pl_x HE391 HH387 (wt0 rfl) (x_pickF rfl (not_f (eq_L_refl _)) rfl) rfl rfl fun a_392 HE393 => ?_
            refine pl_x HE393 HH387 (wt0 rfl) (x_move rfl) rfl rfl fun a_394 HE395 => ?_
            refine pl_x HE395 HH387 (wtT HE395 rfl rfl rfl (not_f (eq_L_refl _))) (x_move rfl) rfl rfl fun a_396 HE397 => ?_
            refine pl_x HE397 HH387 (wtT HE397 rfl rfl rfl (not_f (eq_L_refl _))) (x_move rfl) rfl rfl fun a_398 HE399 => ?_
            refine pl_x HE399 HH387 (wtT HE399 rfl rfl rfl (not_f (eq_L_refl _))) (x_neq rfl rfl) rfl rfl fun a_400 HE401 => ?_
            refine pl_x HE401 HH387 (wt0 rfl) (x_pickF rfl (not_f (eq_L_refl _)) rfl) rfl rfl fun a_402 HE403 => ?_
            refine wpList_nil ?_
            clear a_366 HE367 a_368 HE369 HH351 a_370 HE371 a_375 HE376 a_377 HE378 a_379 HE380 a_381 HE382 K_372 hK373 HH374 a_383 HE384 a_388 HE389 a_390 HE391 a_392 HE393 a_394 HE395 a_396 HE397 a_398 HE399 a_400 HE401 hK386 K_385
            refine nrm ?_
            refine cndF HE403 rfl (bne_f rfl) ?_
            refine wp_skip ?_
            refine nrm ?_
            refine wp_seq ?_
            refine rg ?_
            refine pl_x HE403 HH387 (wt0 rfl) (x_assign rfl) rfl rfl fun a_404 HE405 => ?_
            refine wpList_nil ?_
            clear a_402 HE403
            refine nrm ?_
            refine wp_seq ?_
            refine rg ?_
            refine pl_x HE405 HH387 (wt0 rfl) (x_move rfl) rfl rfl fun a_406 HE407 => ?_
            refine pl_x HE407 HH387 (wt0 rfl) (x_move rfl) rfl rfl fun a_408 HE409 => ?_
            refine pl fun K_410 hK411 => ?_
            refine st_call HE409 (wt0 rfl) rfl rfl rfl en_46 rfl rfl (held_L_c _ _ ((expsAt a0 a1).1) 1 _ (HH387.sl (i := 6) rfl) (by omega) (by omega)) fun e w' hr => ?_
            obtain ⟨rfl, hbr51⟩ := hr
            have HH412 := HH387.on hbr51
            clear hbr51
            refine ⟨_, rfl, fun a_413 HE414 => hK411 _ _ ?_⟩
            refine pl_x HE414 HH412 (wt0 rfl) (x_assign rfl) rfl rfl fun a_415 HE416 => ?_
            refine wpList_nil ?_
            clear a_404 HE405 a_406 HE407 HH387 a_408 HE409 a_413 HE414 hK411 K_410
            refine nrm ?_
            refine wp_seq ?_
            refine wp_seq ?_
            refine rg ?_
            refine pl_x HE416 HH412 (wt0 rfl) (x_move rfl) rfl rfl fun a_417 HE418 => ?_
            refine pl_x HE418 HH412 (wt0 rfl) (x_lss rfl rfl) rfl rfl fun a_419 HE420 => ?_
            refine wpList_nil ?_
            clear a_415 HE416 a_417 HE418
            refine nrm ?_
            refine cndF HE420 rfl (decide_eq_false hc43) ?_
            refine wp_skip ?_
            refine nrm ?_
            refine wp_seq ?_
            refine rg ?_
            refine pl_x HE420 HH412 (wt0 rfl) (x_move rfl) rfl rfl fun a_421 HE422 => ?_
            refine pl_x HE422 HH412 (wt0 rfl) (x_move rfl) rfl rfl fun a_423 HE424 => ?_
            refine pl fun K_425 hK426 => ?_
            refine st_call HE424 (wt0 rfl) rfl rfl rfl en_46 rfl rfl (held_L_c _ _ ((expsAt a0 a1).2.1) (1 + (ct_L ((expsAt a0 a1).1) : Int)) _ (HH412.sl (i := 7) rfl) (by omega) (by omega)) fun e w' hr => ?_
            obtain ⟨rfl, hbr52⟩ := hr
            have HH427 := HH412.on hbr52
            clear hbr52
            refine ⟨_, rfl, fun a_428 HE429 => hK426 _ _ ?_⟩
            refine pl_x HE429 HH427 (wt0 rfl) (x_assign rfl) rfl rfl fun a_430 HE431 => ?_
            refine wpList_nil ?_
            clear a_419 HE420 a_421 HE422 HH412 a_423 HE424 a_428 HE429 hK426 K_425
            refine nrm ?_
            refine wp_seq ?_
            refine wp_seq ?_
            refine rg ?_
            refine pl_x HE431 HH427 (wt0 rfl) (x_move rfl) rfl rfl fun a_432 HE433 => ?_
            refine pl_x HE433 HH427 (wt0 rfl) (x_lss rfl rfl) rfl rfl fun a_434 HE435 => ?_
            refine wpList_nil ?_
            clear a_430 HE431 a_432 HE433
            refine nrm ?_
            refine cndF HE435 rfl (decide_eq_false hc45) ?_
            refine wp_skip ?_
            refine nrm ?_
            refine wp_seq ?_
            refine wp_seq ?_
            refine rg ?_
            refine pl_x HE435 HH427 (wt0 rfl) (x_move rfl) rfl rfl fun a_436 HE437 => ?_
            refine pl_x HE437 HH427 (wt0 rfl) (x_move rfl) rfl rfl fun a_438 HE439 => ?_
            refine pl_x HE439 HH427 (wt0 rfl) (x_neq rfl rfl) rfl rfl fun a_440 HE441 => ?_
            refine wpList_nil ?_
            clear a_434 HE435 a_436 HE437 a_438 HE439
            refine nrm ?_
            refine cndF HE441 rfl (bne_f rfl) ?_
            refine wp_skip ?_
            refine nrm ?_
            refine wp_seq ?_
            refine rg ?_
            refine pl_x HE441 HH427 (wt0 rfl) (x_assign rfl) rfl rfl fun a_442 HE443 => ?_
            refine wpList_nil ?_
            clear a_440 HE441
            refine nrm ?_
            refine wp_ret ?_
            refine ret1 HE443 rfl (rv_tmp rfl) ?_
            have hF : true = true := by
              first | rfl | (exfalso; omega)
            exact ⟨by rw [hF] <;> rfl, HH427.below⟩

end Go.Proofs.Ytfcajgbehecfbaa
