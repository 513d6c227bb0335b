/- What the proof of FnKnown needs: contracts of the functions that it reaches, each once. -/
import Derived.Test.YtcfdkckchbdafaaGreatDoorProg
import Derived.Test.YtcfdkckchbdafaaGreatDoorQMem
import Derived.Test.YtcfdkckchbdafaaGreatDoorQOpen
import Derived.Test.YtcfdkckchbdafaaGreatDoorLFnKnowna
import Derived.Test.YtcfdkckchbdafaaGreatDoorLFnKnownb
import Derived.Test.YtcfdkckchbdafaaGreatDoorLFnKnownc
import Derived.Test.YtcfdkckchbdafaaGreatDoorLFnKnownd
import Derived.WalkKit
import Derived.WalkSpells
import Derived.Below
import Derived.LoopTactic
import Derived.Outline
import Derived.Deep.QuietTactic
import Derived.BigQuiet
import Derived.Deep.LoopGhost
import Derived.Handy
import Derived.Lib.Hide
import Derived.Shelf.Abstract
import Derived.StillTailTactics
import Derived.OwnWalk
import Derived.Maps.AppendAt
import Derived.RegionTactic
import Derived.Deep.RegionHeld3
import Derived.IntWalk
import Derived.Deep.Upon
import Derived.Laws.OwnMore
import Derived.Maps.AppendAt
import Derived.Laws.BytesString
import Derived.Laws.Strings
import Derived.Lib.Bytes
import Derived.Lib.Strings
import Derived.Lib.FrozenHead
import Derived.Lib.RuneBytes
import Derived.Lib.LaidTab
import Derived.Laws.StructEq
import Derived.Lib.SliceRun
import Derived.Lib.AppendZeros
import Derived.Lib.ItoaLen
import Derived.Lib.Join
import Derived.Shelf.Strconv.Itoa4
import Derived.Shelf.Strings.OnBuilder
import Derived.Shelf.Strings.BuilderK
import Derived.Shelf.Strings.BuilderRune
import Derived.Shelf.LaysM
import Derived.Ground.NamesProg
import Derived.Lib.ParseIntBTie
import Derived.Lib.SplitLaws
import Derived.Lib.Replace
import Derived.Shelf.LaysC
import Derived.Shelf.Strconv.ErrVarParseInt
import Derived.Shelf.Strconv.ParseIntPublic10
import Derived.Shelf.Strings.Prefix
import Derived.Shelf.Strings.Cut
import Derived.Shelf.Strings.Split
import Derived.Shelf.Strings.Replace
import Derived.Shelf.Small.Wraps
import Derived.Stop.IfaceNil
namespace Go.Proofs.YtcfdkckchbdafaaGreatDoor
open Go.RowKit

/-- All that is claimed of two numbers. -/
def knowK (a b : Nat) : Bool :=
  isPos (nnK a b) && isNat (nnK a b) && decide ((runRK 0 100 a b).2.2 = (true, 0)) && decide (expsAt (runRK 0 100 a b).1 [3] = ([((a + b : Nat) : Int)], [1], 0)) && decide ((runRK 1 400 a b).2.2 = (true, 0)) && decide (expsAt (runRK 1 400 a b).1 [5] = ([((a * b : Nat) : Int)], [1], 0))

theorem knowK_all : (List.range 6).all (fun a => (List.range 5).all (knowK a)) = true := by decide +kernel

def seenK : Bool := decide ((runPK (knownL 2) 2 300 [2] 0 []).2.2.2.1 = 0) && decide ((runPK (knownL 2) 2 300 [2] 0 []).2.2.2.2 = [1, 2, 3, 5])

theorem seenK_all : seenK = true := by decide +kernel

theorem knownL_ok (k : Int) : validFrac (knownL k) = true ∧ okFr (knownL k) := by
  have h : validFrac (knownL k) = true := by
    unfold knownL
    split
    · decide +kernel
    · split
      · decide +kernel
      · decide +kernel
  exact ⟨h, (validFrac_facts h).2⟩

theorem nat_split {a n : Int} {k : Nat} (h : 0 ≤ a ∧ a < n) (hn : n = k) : ∃ j : Nat, a = (j : Int) ∧ j < k := ⟨a.toNat, by omega, by omega⟩

theorem know_facts {a b : Int} (ha : 0 ≤ a ∧ a < 6) (hb : 0 ≤ b ∧ b < 5) :
    isPos (nn a b) = true ∧ (runR 0 100 a b).2.2 = (true, 0) ∧ expsAt (runR 0 100 a b).1 [3] = ([a + b], [1], 0) ∧ (runR 1 400 a b).2.2 = (true, 0) ∧ expsAt (runR 1 400 a b).1 [5] = ([a * b], [1], 0) := by
  obtain ⟨i, rfl, hi⟩ := nat_split ha rfl
  obtain ⟨j, rfl, hj⟩ := nat_split hb rfl
  have h := List.all_eq_true.1 (List.all_eq_true.1 knowK_all i (List.mem_range.2 hi)) j (List.mem_range.2 hj)
  unfold knowK at h
  simp only [Bool.and_eq_true, decide_eq_true_eq] at h
  obtain ⟨⟨⟨⟨⟨h0, h1⟩, h2⟩, h3⟩, h4⟩, h5⟩ := h
  have hn := nn_K hi hj
  have hp : isPos (nn (i : Int) (j : Int)) = true := by rw [hn]; exact h0
  obtain ⟨p1, p2, p3⟩ := isPos_facts hp
  have hr : ∀ (k : Int) (m : Nat), budgetB (m : Int) = true → runR k (m : Int) i j = runRK k m i j := by
    intro k m hm
    unfold runR runRK runFracs
    rw [(knownL_ok k).1, hp, Bool.and_self, if_pos rfl, if_pos hm]
    unfold runFI
    rw [Int.toNat_natCast, runFr_K (knownL_ok k).2 m _ 0 p1 p2, hn]
  have e1 := hr 0 100 (by decide)
  have e2 := hr 1 400 (by decide)
  refine ⟨hp, ?_, ?_, ?_, ?_⟩
  · rw [show (100 : Int) = ((100 : Nat) : Int) from rfl, e1, h2]
  · rw [show (100 : Int) = ((100 : Nat) : Int) from rfl, e1, h3]; push_cast; rfl
  · rw [show (400 : Int) = ((400 : Nat) : Int) from rfl, e2, h4]
  · rw [show (400 : Int) = ((400 : Nat) : Int) from rfl, e2, h5]; push_cast; rfl

theorem know_seen : powersSeen (knownL 2) [2] 2 300 = ([1, 2, 3, 5], 0) := by
  have h := seenK_all
  unfold seenK at h
  simp only [Bool.and_eq_true, decide_eq_true_eq] at h
  have e : runFP (knownL 2) [2] 300 2 [] = runPK (knownL 2) 2 300 [2] 0 [] := by
    unfold runFP
    exact runPw_K (knownL_ok 2).2 2 300 [2] 0 [] (one_limbs (by omega)) (by simp)
  unfold powersSeen
  rw [(knownL_ok 2).1, show isPos [2] = true from by decide, Bool.and_self, if_pos rfl, if_pos ⟨by decide, by decide +kernel, by decide⟩, e, if_pos h.1, h.2]

def atB (xs : List Int) (i n : Int) : Int := if n ≤ 1 then 0 else if i < (xs.length : Int) then (xs[i.toNat]?.getD 0) % n else (i * 37 + 11) % n

theorem atB_bd (xs : List Int) (i n : Int) (hn : 1 < n) : 0 ≤ atB xs i n ∧ atB xs i n < n := by
  unfold atB
  rw [if_neg (by omega)]
  split
  · exact ⟨Int.emod_nonneg _ (by omega), Int.emod_lt_of_pos _ (by omega)⟩
  · exact ⟨Int.emod_nonneg _ (by omega), Int.emod_lt_of_pos _ (by omega)⟩

def longB (xs : List Int) : Bool := decide (1048576 < (xs.length : Int))

def notNat (n : List Int) : Bool := !isNat n

def natsB (ls : List (List Int)) : Bool := !ls.any notNat

theorem isNat_digs {n : Nat} (h : (digs n).length ≤ 40) : isNat (digs n) = true := by
  have e : trimZ (digs n) = digs n := by
    have := trimZ_digs (digs_limbs n)
    rw [val_digs, Int.toNat_natCast] at this
    exact this
  have := isNat_trim2 (digs_limbs n) (by rw [e]; exact h)
  rwa [e] at this

theorem powN_nat {x : Int} (h : 0 ≤ x ∧ x ≤ 999999) {e : Nat} (he : e ≤ 5) : isNat (powN [x] e) = true := by
  have hl := powN_len (one_limbs h) rfl e
  cases e with
  | zero => exact (by decide : isNat [1] = true)
  | succ e =>
    rw [powN] at hl ⊢
    unfold mulN at hl ⊢
    exact isNat_digs (by omega)

theorem known_ok {k : Int} (h : k = 0 ∨ k = 1 ∨ k = 2) : known k = (knownL k, 0) := by
  unfold known
  rw [if_pos (by rcases h with rfl | rfl | rfl <;> decide)]

theorem mulNats_ok {a b : List Int} (h1 : isNat a = true) (h2 : isNat b = true) (h3 : (mulN a b).length ≤ 40) : mulNats a b = (mulN a b, 0) := by
  unfold mulNats
  rw [if_pos ⟨h1, h2⟩, if_neg (by omega)]

theorem nn_ok {a b : Int} (ha : 0 ≤ a ∧ a < 6) (hb : 0 ≤ b ∧ b < 5) : mulNats (powN [2] a.toNat) (powN [3] b.toNat) = (nn a b, 0) := by
  have l1 := powN_len (one_limbs (x := 2) (by omega)) rfl a.toNat
  have l2 := powN_len (one_limbs (x := 3) (by omega)) rfl b.toNat
  have l3 := mulN_len (powN_val (one_limbs (x := 2) (by omega)) a.toNat).1 (powN_val (one_limbs (x := 3) (by omega)) b.toNat).1
  exact mulNats_ok (powN_nat (by omega) (by omega)) (powN_nat (by omega) (by omega)) (by omega)

def numsB (x y : List Int) : Bool := decide (x.length = y.length) && (List.range x.length).all (fun k => x[k]?.getD 0 == y[k]?.getD 0)

theorem enters_naturals1 : ∀ args w, (callFunc 105 args).run Tryz.prog w = .ok (.enter 105 args) w := enters_of Tryz.func105 (by kernel_rfl) rfl

theorem impl_naturals1 (es : List Value) (xs : List Int) (w : World) (h : (eSl eInt).R w (Old w) es xs) :
    Calls Tryz.prog 105 #[es[0]!] w fun e w' => e = .returned (.bool (notNat xs)) ∧ Below w.heap.size w w' := by
  obtain ⟨A, c, rfl, h⟩ := h
  have H := Lib.hid h; clear h
  show Calls Tryz.prog 105 #[.slice A xs.length c] w _
  go_enter Tryz.func105, Tryz.ntmps105
  go_wp2_with (go_at_call 41; refine (impl_IsNatural _ _ _ _ H.out).mono ?_; rintro e w' ⟨rfl, rfl⟩)
  go_ret
  exact ⟨rfl, Below.refl _ _⟩

theorem impl_naturals (A : Option Addr) (c : Nat) (xs : List (List Int)) (w : World) (h : Sl (eSl eInt) w (Old w) A c xs) :
    Calls Tryz.prog 44 #[.slice A xs.length c] w fun e w' => e = .returned (.bool (natsB xs)) ∧ Below w.heap.size w w' := by
  have hI := Lib.hid (ContainsFunc_Int64S notNat 105 #[] A c xs w h enters_naturals1 (fun W x es _ hb hR => impl_naturals1 es x W hR)); clear h
  go_enter Tryz.func44, Tryz.ntmps44
  go_wp2_with (go_at_call 104; refine hI.out.mono ?_; rintro e w' ⟨rfl, hb⟩)
  go_ret
  exact ⟨rfl, hb⟩

theorem natsB_two {a b : List Int} : natsB [a, b] = (isNat a && isNat b) := by unfold natsB; simp only [List.any_cons, List.any_nil, notNat]; cases isNat a <;> cases isNat b <;> rfl

theorem natsB_t {a b : List Int} (h : natsB [a, b] = true) : isNat a = true ∧ isNat b = true := by rw [natsB_two, Bool.and_eq_true] at h; exact h

theorem natsB_f {a b : List Int} (h : natsB [a, b] = false) : ¬ (isNat a = true ∧ isNat b = true) := fun h1 => by rw [natsB_two, h1.1, h1.2] at h; exact Bool.noConfusion h

theorem nums_step {x y : List Int} {k : Nat} (h : (List.range k).all (fun k => x[k]?.getD 0 == y[k]?.getD 0) = true) (hx : k < x.length) (hy : k < y.length) {a b : Int} (ha : a = x[k]) (hb : b = y[k]) (he : a = b) : (List.range (k + 1)).all (fun k => x[k]?.getD 0 == y[k]?.getD 0) = true := by
  rw [List.range_succ, List.all_append, h, Bool.true_and]
  simp [List.getElem?_eq_getElem hx, List.getElem?_eq_getElem hy, ← ha, ← hb, he]

theorem nums_hit {x y : List Int} {k : Nat} (hx : k < x.length) (hy : k < y.length) {a b : Int} (ha : a = x[k]) (hb : b = y[k]) (he : ¬ a = b) : numsB x y = false := by
  unfold numsB
  rw [Bool.and_eq_false_iff]
  right
  rw [List.all_eq_false]
  refine ⟨k, List.mem_range.2 hx, ?_⟩
  simp [List.getElem?_eq_getElem hx, List.getElem?_eq_getElem hy, ← ha, ← hb, he]

theorem numsB_refl (x : List Int) : numsB x x = true := by unfold numsB; simp

theorem isNat_f {n : List Int} (h : isNat n = true) : limbs n ∧ n.length ≤ 40 := by
  unfold isNat at h
  simp only [Bool.and_eq_true, decide_eq_true_eq] at h
  exact ⟨fun x hx => allW_mem h.1.2 x hx, by omega⟩

def limF (n : List Int) : List Int × Int := if 40 < (n.length : Int) then ([], 5) else (n, 0)

set_option maxRecDepth 100000 in
set_option maxHeartbeats 4000000 in
theorem laws_b10Long (A0 : Option Addr) (c0 : Nat) (a0 : (List Int)) (w : World) (h0 : Sl eByte w (Old w) A0 c0 a0) :
    Calls Tryz.prog 8 #[.slice A0 a0.length c0] w fun e w' => e = .returned (.bool (longB a0)) ∧ w = w' := by
  have l0 := h0.len
  have HH1 := Held.start Nob w
  refine enter (n := 6) Tryz.func8 rfl rfl rfl fun a_2 HE3 => ?_
  refine wp_seq ?_
  refine rg ?_
  refine pl_x HE3 HH1 (wt0 rfl) (x_assign rfl) rfl rfl fun a_4 HE5 => ?_
  refine wpList_nil ?_
  clear a_2 HE3
  refine nrm ?_
  refine wp_seq ?_
  refine rg ?_
  refine pl_x HE5 HH1 (wt0 rfl) (x_move rfl) rfl rfl fun a_6 HE7 => ?_
  refine pl_x HE7 HH1 (wt0 rfl) (x_len Tryz.underlying22 rfl) rfl rfl fun a_8 HE9 => ?_
  refine pl_x HE9 HH1 (wt0 rfl) (x_gtr rfl rfl) rfl rfl fun a_10 HE11 => ?_
  refine pl_x HE11 HH1 (wt0 rfl) (x_assign rfl) rfl rfl fun a_12 HE13 => ?_
  refine wpList_nil ?_
  clear a_4 HE5 a_6 HE7 a_8 HE9 a_10 HE11
  refine nrm ?_
  refine wp_ret ?_
  refine ret1 HE13 rfl (rv_tmp rfl) ?_
  have hF : (longB a0) = decide (1048576 < (a0.length : Int)) := by
    first | rfl | (simp [longB]; done) | (simp [longB]; omega) | grind [longB]
  exact ⟨by first | (rw [hF] <;> rfl) | rfl | (rw [hF]; simp only [Ending.returned.injEq, Value.slice.injEq, true_and, and_true]; first | omega | (simp; done)) | (rw [hF]; simp; omega), rfl⟩

set_option maxRecDepth 100000 in
set_option maxHeartbeats 4000000 in
theorem laws_b10At (A0 : Option Addr) (c0 : Nat) (a0 : (List Int)) (a1 : Int) (a2 : Int) (w : World) (h0 : Sl eByte w (Old w) A0 c0 a0) (s0 : 0 ≤ a1 ∧ a1 ≤ 10) (s1 : 2 ≤ a2 ∧ a2 ≤ 100) :
    Calls Tryz.prog 9 #[.slice A0 a0.length c0, .int .i64 a1, .int .i64 a2] w fun e w' => e = .returned (.int .i64 (atB a0 a1 a2)) ∧ Below w.heap.size w w' := by
  have l0 := h0.len
  have HH1 := Held.start Nob w
  refine enter (n := 25) Tryz.func9 rfl rfl rfl fun a_2 HE3 => ?_
  refine wp_seq ?_
  refine rg ?_
  refine pl_x HE3 HH1 (wt0 rfl) (x_assign rfl) rfl rfl fun a_4 HE5 => ?_
  refine wpList_nil ?_
  clear a_2 HE3
  refine nrm ?_
  refine wp_seq ?_
  refine wp_seq ?_
  refine rg ?_
  refine pl_x HE5 HH1 (wt0 rfl) (x_move rfl) rfl rfl fun a_6 HE7 => ?_
  refine pl_x HE7 HH1 (wt0 rfl) (x_leq rfl rfl) rfl rfl fun a_8 HE9 => ?_
  refine wpList_nil ?_
  clear a_4 HE5 a_6 HE7
  refine nrm ?_
  refine cnd_d HE9 rfl (fun hc21 => ?_) (fun hc21 => ?_)
  · refine wp_seq ?_
    refine rg ?_
    refine pl_x HE9 HH1 (wt0 rfl) (x_assign rfl) rfl rfl fun a_10 HE11 => ?_
    refine wpList_nil ?_
    clear a_8 HE9
    refine nrm ?_
    refine wp_ret ?_
    refine (thn_ret ?_)
    refine ret1 HE11 rfl (rv_tmp rfl) ?_
    have hF : (atB a0 a1 a2) = 0 := by
      unfold atB; first | (rw [if_pos (by omega)]; done) | (rw [if_neg (by omega), if_pos (by omega), List.getElem?_eq_getElem (by omega), ← hx0]; rfl) | (rw [if_neg (by omega), if_neg (by omega)]; done)
    exact ⟨by first | (rw [hF] <;> rfl) | rfl | (rw [hF]; simp only [Ending.returned.injEq, Value.slice.injEq, true_and, and_true]; first | omega | (simp; done)) | (rw [hF]; simp; omega), HH1.below⟩
  · refine wp_skip ?_
    refine nrm ?_
    refine wp_seq ?_
    refine wp_seq ?_
    refine rg ?_
    refine pl_x HE9 HH1 (wt0 rfl) (x_move rfl) rfl rfl fun a_12 HE13 => ?_
    refine pl_x HE13 HH1 (wt0 rfl) (x_move rfl) rfl rfl fun a_14 HE15 => ?_
    refine pl_x HE15 HH1 (wt0 rfl) (x_len Tryz.underlying22 rfl) rfl rfl fun a_16 HE17 => ?_
    refine pl_x HE17 HH1 (wt0 rfl) (x_lss rfl rfl) rfl rfl fun a_18 HE19 => ?_
    refine wpList_nil ?_
    clear a_8 HE9 a_12 HE13 a_14 HE15 a_16 HE17
    refine nrm ?_
    refine cnd_d HE19 rfl (fun hc22 => ?_) (fun hc22 => ?_)
    · refine wp_seq ?_
      refine rg ?_
      refine pl_x HE19 HH1 (wt0 rfl) (x_move rfl) rfl rfl fun a_20 HE21 => ?_
      refine pl_x HE21 HH1 (wt0 rfl) (x_move rfl) rfl rfl fun a_22 HE23 => ?_
      have ke23 : (a1).toNat < a0.length := by omega
      obtain ⟨be23, fe23, ese23, Ae23, Re23, De23⟩ := el_old h0 ke23
      obtain ⟨e23, xe23⟩ : ∃ x_, x_ = a0[(a1).toNat] := ⟨_, rfl⟩
      rw [← xe23] at Re23
      have Qe23 := Re23
      obtain ⟨rfl, ie23⟩ := Re23
      have hx0 := xe23
      refine pl_x HE23 HH1 (wt0 rfl) (x_indexAddr ts_22 rfl rfl Ae23 (by omega) ke23) rfl rfl fun a_24 HE25 => ?_
      refine pl_x HE25 HH1 (wt0 rfl) (x_load1 tv_5 rfl (c_old (De23 0 _ rfl))) rfl rfl fun a_26 HE27 => ?_
      refine pl_x HE27 HH1 (wt0 rfl) (x_conv Tryz.underlying5 Tryz.underlying2 rfl (by exact ⟨by omega, by omega⟩)) rfl rfl fun a_28 HE29 => ?_
      refine pl_x HE29 HH1 (wt0 rfl) (x_move rfl) rfl rfl fun a_30 HE31 => ?_
      refine pl_x HE31 HH1 (wt0 rfl) (x_rem rfl rfl (by omega) (by omega)) rfl rfl fun a_32 HE33 => ?_
      refine pl_x HE33 HH1 (wt0 rfl) (x_assign rfl) rfl rfl fun a_34 HE35 => ?_
      refine wpList_nil ?_
      clear a_18 HE19 a_20 HE21 a_22 HE23 a_24 HE25 a_26 HE27 a_28 HE29 a_30 HE31 a_32 HE33
      refine nrm ?_
      refine wp_ret ?_
      refine (thn_ret ?_)
      refine ret1 HE35 rfl (rv_tmp rfl) ?_
      have hF : (atB a0 a1 a2) = (e23 % a2) := by
        unfold atB; first | (rw [if_pos (by omega)]; done) | (rw [if_neg (by omega), if_pos (by omega), List.getElem?_eq_getElem (by omega), ← hx0]; rfl) | (rw [if_neg (by omega), if_neg (by omega)]; done)
      exact ⟨by first | (rw [hF] <;> rfl) | rfl | (rw [hF]; simp only [Ending.returned.injEq, Value.slice.injEq, true_and, and_true]; first | omega | (simp; done)) | (rw [hF]; simp; omega), HH1.below⟩
    · refine wp_skip ?_
      refine nrm ?_
      refine wp_seq ?_
      refine rg ?_
      refine pl_x HE19 HH1 (wt0 rfl) (x_move rfl) rfl rfl fun a_36 HE37 => ?_
      refine pl_x HE37 HH1 (wt0 rfl) (x_mul rfl rfl (by exact ⟨by omega, by omega⟩)) rfl rfl fun a_38 HE39 => ?_
      refine pl_x HE39 HH1 (wt0 rfl) (x_add rfl rfl (by exact ⟨by omega, by omega⟩)) rfl rfl fun a_40 HE41 => ?_
      refine pl_x HE41 HH1 (wt0 rfl) (x_move rfl) rfl rfl fun a_42 HE43 => ?_
      refine pl_x HE43 HH1 (wt0 rfl) (x_rem rfl rfl (by omega) (by omega)) rfl rfl fun a_44 HE45 => ?_
      refine pl_x HE45 HH1 (wt0 rfl) (x_assign rfl) rfl rfl fun a_46 HE47 => ?_
      refine wpList_nil ?_
      clear a_18 HE19 a_36 HE37 a_38 HE39 a_40 HE41 a_42 HE43 a_44 HE45
      refine nrm ?_
      refine wp_ret ?_
      refine ret1 HE47 rfl (rv_tmp rfl) ?_
      have hF : (atB a0 a1 a2) = (((a1 * 37) + 11) % a2) := by
        unfold atB; first | (rw [if_pos (by omega)]; done) | (rw [if_neg (by omega), if_pos (by omega), List.getElem?_eq_getElem (by omega), ← hx0]; rfl) | (rw [if_neg (by omega), if_neg (by omega)]; done)
      exact ⟨by first | (rw [hF] <;> rfl) | rfl | (rw [hF]; simp only [Ending.returned.injEq, Value.slice.injEq, true_and, and_true]; first | omega | (simp; done)) | (rw [hF]; simp; omega), HH1.below⟩

set_option maxRecDepth 100000 in
set_option maxHeartbeats 4000000 in
theorem laws_b10Nums (A0 : Option Addr) (c0 : Nat) (a0 : (List Int)) (A1 : Option Addr) (c1 : Nat) (a1 : (List Int)) (w : World) (h0 : Sl eInt w (Old w) A0 c0 a0) (h1 : Sl eInt w (Old w) A1 c1 a1) :
    Calls Tryz.prog 15 #[.slice A0 a0.length c0, .slice A1 a1.length c1] w fun e w' => e = .returned (.bool (numsB a0 a1)) ∧ Below w.heap.size w w' := by
  have l0 := h0.len
  have l1 := h1.len
  have HH1 := Held.start Nob w
  refine enter (n := 26) Tryz.func15 rfl rfl rfl fun a_2 HE3 => ?_
  refine wp_seq ?_
  refine rg ?_
  refine pl_x HE3 HH1 (wt0 rfl) (x_assign rfl) rfl rfl fun a_4 HE5 => ?_
  refine wpList_nil ?_
  clear a_2 HE3
  refine nrm ?_
  refine wp_seq ?_
  refine wp_seq ?_
  refine rg ?_
  refine pl_x HE5 HH1 (wt0 rfl) (x_move rfl) rfl rfl fun a_6 HE7 => ?_
  refine pl_x HE7 HH1 (wt0 rfl) (x_len Tryz.underlying25 rfl) rfl rfl fun a_8 HE9 => ?_
  refine pl_x HE9 HH1 (wt0 rfl) (x_move rfl) rfl rfl fun a_10 HE11 => ?_
  refine pl_x HE11 HH1 (wt0 rfl) (x_len Tryz.underlying25 rfl) rfl rfl fun a_12 HE13 => ?_
  refine pl_x HE13 HH1 (wt0 rfl) (x_neq rfl rfl) rfl rfl fun a_14 HE15 => ?_
  refine wpList_nil ?_
  clear a_4 HE5 a_6 HE7 a_8 HE9 a_10 HE11 a_12 HE13
  refine nrm ?_
  refine cnd_ne HE15 rfl (fun hc21 => ?_) (fun hc21 => ?_)
  · refine wp_seq ?_
    refine rg ?_
    refine pl_x HE15 HH1 (wt0 rfl) (x_assign rfl) rfl rfl fun a_16 HE17 => ?_
    refine wpList_nil ?_
    clear a_14 HE15
    refine nrm ?_
    refine wp_ret ?_
    refine (thn_ret ?_)
    refine ret1 HE17 rfl (rv_tmp rfl) ?_
    have hF : (numsB a0 a1) = false := by
      first | (unfold numsB; rw [decide_eq_false (by omega), Bool.false_and]) | exact nums_hit (by omega) (by omega) hx0 hy0 (by omega) | (have hp := p0_1; rw [show k = a0.length from by omega] at hp; unfold numsB; rw [hp, decide_eq_true (by omega)]; rfl)
    exact ⟨by first | (rw [hF] <;> rfl) | rfl | (rw [hF]; simp only [Ending.returned.injEq, Value.slice.injEq, true_and, and_true]; first | omega | (simp; done)) | (rw [hF]; simp; omega), HH1.below⟩
  · refine wp_skip ?_
    refine nrm ?_
    refine wp_seq ?_
    refine wp_seq ?_
    refine rg ?_
    refine pl_x HE15 HH1 (wt0 rfl) (x_assign rfl) rfl rfl fun a_18 HE19 => ?_
    refine wpList_nil ?_
    clear a_14 HE15
    refine nrm ?_
    refine wp_block ?_
    refine lp (fun m a w' => ∃ (k : Nat), m = a0.length - k ∧ Env 26 [(5, .int .i64 (k : Int)), (0, .slice A0 (a0.length) c0), (1, .slice A1 (a1.length) c1)] a ∧ Held Nob w [] w' ∧ (k ≤ a0.length) ∧ ((List.range k).all (fun k => a0[k]?.getD 0 == a1[k]?.getD 0) = true)) (a0.length - (0)) ?_ ?_
    · exact ⟨0, rfl, HE19.sub ⟨(lkI rfl (by first | rfl | omega | (simp [hc21]; done))), rfl, rfl, trivial⟩, (HH1.sel [] (by decide) rfl), (by first | omega | assumption | (simp; done) | simp_all), (by rfl)⟩
    · rintro m a_20 w' ⟨k, rfl, HE21, HH22, p22_0, p22_1⟩
      refine wp_seq ?_
      refine wp_seq ?_
      refine rg ?_
      refine pl_x HE21 HH22 (wt0 rfl) (x_move rfl) rfl rfl fun a_23 HE24 => ?_
      refine pl_x HE24 HH22 (wt0 rfl) (x_move rfl) rfl rfl fun a_25 HE26 => ?_
      refine pl_x HE26 HH22 (wt0 rfl) (x_len Tryz.underlying25 rfl) rfl rfl fun a_27 HE28 => ?_
      refine pl_x HE28 HH22 (wt0 rfl) (x_lss rfl rfl) rfl rfl fun a_29 HE30 => ?_
      refine wpList_nil ?_
      clear a_18 HE19 HH1 a_20 HE21 a_23 HE24 a_25 HE26 a_27 HE28
      refine nrm ?_
      refine cnd_d HE30 rfl (fun hc23 => ?_) (fun hc23 => ?_)
      · refine wp_skip ?_
        refine nrm ?_
        refine wp_seq ?_
        refine wp_block ?_
        refine wp_seq ?_
        refine dr_start (Held Nob w []) 9 #[false, false, false, false, false, false, false, false, false] hmix rfl rfl HH22 (fun _ h => h.sel [] (by decide) rfl) fun w' HH31 => ?_
        have HS32 := HH31
        refine dr_take (i := 0) (ls' := #[true, false, false, false, false, false, false, false, false]) HE30 HS32 rfl (by kernel_rfl) (by kernel_rfl) (by kernel_rfl) (fun _ _ _ h => h) rfl (wt0 rfl) (x_move rfl) rfl rfl fun a_33 HE34 => ?_
        refine dr_take (i := 1) (ls' := #[true, true, false, false, false, false, false, false, false]) HE34 HS32 rfl (by kernel_rfl) (by kernel_rfl) (by kernel_rfl) (fun _ _ _ h => h) rfl (wt0 rfl) (x_move rfl) rfl rfl fun a_35 HE36 => ?_
        have ke24 : k < a0.length := by omega
        obtain ⟨be24, fe24, ese24, Ae24, Re24, De24⟩ := el_old h0 ke24
        obtain ⟨e24, xe24⟩ : ∃ x_, x_ = a0[k] := ⟨_, rfl⟩
        rw [← xe24] at Re24
        have Qe24 := Re24
        obtain ⟨rfl, ie24⟩ := Re24
        have je24 := ie24; unfold I64 at je24
        have hx0 := xe24
        refine dr_take (i := 2) (ls' := #[true, true, true, false, false, false, false, false, false]) HE36 HS32 rfl (by kernel_rfl) (by kernel_rfl) (by kernel_rfl) (fun _ _ _ h => h) rfl (wt0 rfl) (x_indexAddr ts_25 rfl rfl Ae24 rfl ke24) rfl rfl fun a_37 HE38 => ?_
        refine dr_take (i := 3) (ls' := #[true, true, true, true, false, false, false, false, false]) HE38 HS32 rfl (by kernel_rfl) (by kernel_rfl) (by kernel_rfl) (fun _ _ _ h => h) rfl (wt0 rfl) (x_load1 tv_2 rfl (c_old (De24 0 _ rfl))) rfl rfl fun a_39 HE40 => ?_
        refine dr_take (i := 4) (ls' := #[true, true, true, true, true, false, false, false, false]) HE40 HS32 rfl (by kernel_rfl) (by kernel_rfl) (by kernel_rfl) (fun _ _ _ h => h) rfl (wt0 rfl) (x_move rfl) rfl rfl fun a_41 HE42 => ?_
        refine dr_take (i := 5) (ls' := #[true, true, true, true, true, true, false, false, false]) HE42 HS32 rfl (by kernel_rfl) (by kernel_rfl) (by kernel_rfl) (fun _ _ _ h => h) rfl (wt0 rfl) (x_move rfl) rfl rfl fun a_43 HE44 => ?_
        have ke25 : k < a1.length := by omega
        obtain ⟨be25, fe25, ese25, Ae25, Re25, De25⟩ := el_old h1 ke25
        obtain ⟨e25, xe25⟩ : ∃ x_, x_ = a1[k] := ⟨_, rfl⟩
        rw [← xe25] at Re25
        have Qe25 := Re25
        obtain ⟨rfl, ie25⟩ := Re25
        have je25 := ie25; unfold I64 at je25
        have hy0 := xe25
        refine dr_take (i := 6) (ls' := #[true, true, true, true, true, true, true, false, false]) HE44 HS32 rfl (by kernel_rfl) (by kernel_rfl) (by kernel_rfl) (fun _ _ _ h => h) rfl (wt0 rfl) (x_indexAddr ts_25 rfl rfl Ae25 rfl ke25) rfl rfl fun a_45 HE46 => ?_
        refine dr_take (i := 7) (ls' := #[true, true, true, true, true, true, true, true, false]) HE46 HS32 rfl (by kernel_rfl) (by kernel_rfl) (by kernel_rfl) (fun _ _ _ h => h) rfl (wt0 rfl) (x_load1 tv_2 rfl (c_old (De25 0 _ rfl))) rfl rfl fun a_47 HE48 => ?_
        refine dr_take (i := 8) (ls' := #[true, true, true, true, true, true, true, true, true]) HE48 HS32 rfl (by kernel_rfl) (by kernel_rfl) (by kernel_rfl) (fun _ _ _ h => h) rfl (wt0 rfl) (x_neq rfl rfl) rfl rfl fun a_49 HE50 => ?_
        refine dr_done (by kernel_rfl) ?_
        clear HH22 a_29 HE30 a_33 HE34 a_35 HE36 a_37 HE38 a_39 HE40 a_41 HE42 a_43 HE44 a_45 HE46 a_47 HE48
        refine nrm ?_
        refine cnd_ne HE50 rfl (fun hc26 => ?_) (fun hc26 => ?_)
        · refine wp_seq ?_
          refine rg ?_
          refine pl_x HE50 HH31 (wt0 rfl) (x_assign rfl) rfl rfl fun a_51 HE52 => ?_
          refine wpList_nil ?_
          clear a_49 HE50
          refine nrm ?_
          refine wp_ret ?_
          refine (blk_ret (thn_ret (thn_ret (blk_ret (thn_ret ?_)))))
          refine ret1 HE52 rfl (rv_tmp rfl) ?_
          have hF : (numsB a0 a1) = false := by
            first | (unfold numsB; rw [decide_eq_false (by omega), Bool.false_and]) | exact nums_hit (by omega) (by omega) hx0 hy0 (by omega) | (have hp := p22_1; rw [show k = a0.length from by omega] at hp; unfold numsB; rw [hp, decide_eq_true (by omega)]; rfl)
          exact ⟨by first | (rw [hF] <;> rfl) | rfl | (rw [hF]; simp only [Ending.returned.injEq, Value.slice.injEq, true_and, and_true]; first | omega | (simp; done)) | (rw [hF]; simp; omega), HH31.below⟩
        · refine wp_skip ?_
          refine blk_n ?_
          refine nrm ?_
          refine rg ?_
          refine pl_x HE50 HH31 (wt0 rfl) (x_move rfl) rfl rfl fun a_53 HE54 => ?_
          refine pl_x HE54 HH31 (wt0 rfl) (x_add rfl rfl (by exact ⟨by omega, by omega⟩)) rfl rfl fun a_55 HE56 => ?_
          refine pl_x HE56 HH31 (wt0 rfl) (x_assign rfl) rfl rfl fun a_57 HE58 => ?_
          refine wpList_nil ?_
          clear a_49 HE50 a_53 HE54 a_55 HE56
          exact nrm ⟨a0.length - (k + 1), (by omega), k + 1, rfl, HE58.sub ⟨(lkI rfl (by first | rfl | omega | (simp [hc21, p22_0, p22_1, hc23, xe24, xe25, hc26]; done))), rfl, rfl, trivial⟩, (HH31.sel [] (by decide) rfl), (by first | omega | assumption | (simp; done) | simp_all), (by exact nums_step p22_1 (by omega) (by omega) hx0 hy0 (by omega))⟩
      · refine wp_exit ?_
        refine (thn_exit (thn_exit (blk_hit ?_)))
        refine nrm ?_
        refine wp_seq ?_
        refine rg ?_
        refine pl_x HE30 HH22 (wt0 rfl) (x_assign rfl) rfl rfl fun a_59 HE60 => ?_
        refine wpList_nil ?_
        clear a_29 HE30
        refine nrm ?_
        refine wp_ret ?_
        refine ret1 HE60 rfl (rv_tmp rfl) ?_
        have hF : (numsB a0 a1) = true := by
          first | (unfold numsB; rw [decide_eq_false (by omega), Bool.false_and]) | exact nums_hit (by omega) (by omega) hx0 hy0 (by omega) | (have hp := p22_1; rw [show k = a0.length from by omega] at hp; unfold numsB; rw [hp, decide_eq_true (by omega)]; rfl)
        exact ⟨by first | (rw [hF] <;> rfl) | rfl | (rw [hF]; simp only [Ending.returned.injEq, Value.slice.injEq, true_and, and_true]; first | omega | (simp; done)) | (rw [hF]; simp; omega), HH22.below⟩

set_option maxRecDepth 100000 in
set_option maxHeartbeats 4000000 in
theorem impl_PowerNatural (A0 : Option Addr) (c0 : Nat) (a0 : (List Int)) (a1 : Int) (w : World) (h0 : Sl eInt w (Old w) A0 c0 a0) (s0 : limbs a0) (s1 : a0.length = 1) (s2 : isNat a0 = true) (s3 : 0 ≤ a1 ∧ a1 ≤ 5) :
    Calls Tryz.prog 10 #[.slice A0 a0.length c0, .int .i64 a1] w fun e w' => ∃ (A0' : Option Addr) (c0' : Nat), e = .returned (.tuple #[.slice A0' (powNat a0 a1).1.length c0', .int .i64 (powNat a0 a1).2]) ∧ So eInt w' (Fr w w') A0' c0' (powNat a0 a1).1 ∧ Below w.heap.size w w' := by
  have l0 := h0.len
  have HH1 := Held.start Nob w
  refine enter (n := 25) Tryz.func10 rfl rfl rfl fun a_2 HE3 => ?_
  refine wp_seq ?_
  refine rg ?_
  refine pl_x HE3 HH1 (wt0 rfl) (x_assign rfl) rfl rfl fun a_4 HE5 => ?_
  refine pl_x HE5 HH1 (wt0 rfl) (x_assign rfl) rfl rfl fun a_6 HE7 => ?_
  refine wpList_nil ?_
  clear a_2 HE3 a_4 HE5
  refine nrm ?_
  refine wp_seq ?_
  refine wp_seq ?_
  refine rg ?_
  refine pl_x HE7 HH1 (wt0 rfl) (x_move rfl) rfl rfl fun a_8 HE9 => ?_
  refine pl fun K_10 hK11 => ?_
  refine st_call HE9 (wt0 rfl) rfl rfl rfl en_41 rfl rfl (impl_IsNatural _ _ a0 _ (HH1.old h0)) fun e w' hr => ?_
  obtain ⟨rfl, rfl⟩ := hr
  refine ⟨_, rfl, fun a_12 HE13 => hK11 _ _ ?_⟩
  refine pl_x HE13 HH1 (wt0 rfl) (x_not rfl) rfl rfl fun a_14 HE15 => ?_
  refine wpList_nil ?_
  clear a_6 HE7 a_8 HE9 a_12 HE13 hK11 K_10
  refine nrm ?_
  refine cnd_nb HE15 rfl (fun hc22 => ?_) (fun hc22 => ?_)
  · exact absurd s2 (by rw [hc22]; decide)
  · refine wp_skip ?_
    refine nrm ?_
    refine wp_seq ?_
    refine wp_seq ?_
    refine rg ?_
    refine pl_x HE15 HH1 (wt0 rfl) (x_move rfl) rfl rfl fun a_16 HE17 => ?_
    refine pl fun K_18 hK19 => ?_
    refine st_call HE17 (wt0 rfl) rfl rfl rfl en_42 rfl rfl (impl_within a1 0 800 _ ) fun e w' hr => ?_
    obtain ⟨rfl, rfl⟩ := hr
    refine ⟨_, rfl, fun a_20 HE21 => hK19 _ _ ?_⟩
    refine pl_x HE21 HH1 (wt0 rfl) (x_not rfl) rfl rfl fun a_22 HE23 => ?_
    refine wpList_nil ?_
    clear a_14 HE15 a_16 HE17 a_20 HE21 hK19 K_18
    refine nrm ?_
    refine cnd_nb HE23 rfl (fun hc24 => ?_) (fun hc24 => ?_)
    · exact absurd (show withinB a1 0 800 = true from withinB_true.2 (by omega)) (by rw [hc24]; decide)
    · refine wp_skip ?_
      refine nrm ?_
      refine wp_seq ?_
      refine rg ?_
      refine pl fun K_24 hK25 => ?_
      refine st_lit (m := 1) (cs := [.int .i64 (1)]) (e := 2) HE23 HH1 (run_lit ts_25 HE23 (vs := [.int .i64 (1)]) rfl rfl (by simp [Value.cells]) rfl (by decide)) (wt0 rfl) rfl rfl fun q25 a_26 w' HE27 HH28 => hK25 _ _ ?_
      refine pl_x HE27 HH28 (wt0 rfl) (x_assign rfl) rfl rfl fun a_29 HE30 => ?_
      refine wpList_nil ?_
      clear a_22 HE23 HH1 a_26 HE27 hK25 K_24
      refine nrm ?_
      refine wp_seq ?_
      refine wp_block ?_
      have HH31 := Held.vecFlat (E := eInt) (xs := [1]) (css := [[.int .i64 (1)]]) HH28 rfl (by unfold maxLen; simp) (fun i x hx => by match i with | 0 => exact ⟨_, rfl, fun _ => by simp at hx; subst hx; exact (oI (by exact ⟨by omega, by omega⟩))⟩ | i + 1 => simp at hx)
      have HH32 := HH31.vecSo
      refine lp (fun m a w' => ∃ (k : Nat) (A_6 : Option Addr) (c_6 : Nat) (S_6 : Nat → Prop), m = a1.toNat - k ∧ Env 25 [(1, .int .i64 (a1 - (k : Int))), (6, .slice A_6 (List.length (powN a0 k)) c_6), (0, .slice A0 (a0.length) c0)] a ∧ Held Nob w [rSo eInt S_6 A_6 c_6 (powN a0 k)] w' ∧ ((k : Int) ≤ a1)) (a1.toNat - (0)) ?_ ?_
      · have E26 : powN a0 0 = ([1] : List Int) := by
          rfl
        exact ⟨0, (some ⟨q25, 0, none⟩), (List.length (α := Int) [1]), (fun b => b = q25), rfl, HE30.sub ⟨(lkI rfl (by omega)), (by rw [E26]; rfl), rfl, trivial⟩, ((HH32.sel [0] (by decide) rfl).to (by first | rfl | (rw [E26]; done) | (rw [E26]; rfl) | (simp only [E26]; done) | (simp only [E26]; rfl) | (rw [E26]; simp only [List.length_set]; done))), (by first | omega | assumption | (simp; done) | simp_all)⟩
      · rintro m a_33 w' ⟨k, A_6, c_6, S_6, rfl, HE34, HH35, p27_0⟩
        have hl0 := powN_len s0 s1 k
        have hl1 := powN_len s0 s1 (k + 1)
        have hl2 : (mulN (powN a0 k) a0).length ≤ k + 1 + 1 := hl1
        have hm0 := (powN_val s0 k).1
        refine wp_seq ?_
        refine wp_seq ?_
        refine rg ?_
        refine pl_x HE34 HH35 (wt0 rfl) (x_move rfl) rfl rfl fun a_36 HE37 => ?_
        refine pl_x HE37 HH35 (wt0 rfl) (x_gtr rfl rfl) rfl rfl fun a_38 HE39 => ?_
        refine wpList_nil ?_
        clear HH28 HH31 a_29 HE30 HH32 a_33 HE34 a_36 HE37
        refine nrm ?_
        refine cnd_d HE39 rfl (fun hc28 => ?_) (fun hc28 => ?_)
        · refine wp_skip ?_
          refine nrm ?_
          refine wp_seq ?_
          refine wp_block ?_
          refine wp_seq ?_
          refine rg ?_
          refine pl_x HE39 HH35 (wt0 rfl) (x_move rfl) rfl rfl fun a_40 HE41 => ?_
          refine pl_x HE41 HH35 (wt0 rfl) (x_move rfl) rfl rfl fun a_42 HE43 => ?_
          refine pl fun K_44 hK45 => ?_
          refine st_call HE43 (wt0 rfl) rfl rfl rfl en_43 rfl rfl (impl_multiply _ _ (powN a0 k) _ _ a0 _ (HH35.sl (i := 0) rfl) (HH35.old h0) (by assumption) (by first | assumption | (intro x hx; simp at hx; omega)) (by first | omega | simp) (by first | omega | simp)) fun e w' hr => ?_
          obtain ⟨Ar29_0, cr29_0, rfl, hor29_0, hbr29⟩ := hr
          obtain ⟨Sr29, HH46⟩ := HH35.newS hbr29 hor29_0
          refine ⟨_, rfl, fun a_47 HE48 => hK45 _ _ ?_⟩
          refine pl_x HE48 HH46 (wt0 rfl) (x_assign rfl) rfl rfl fun a_49 HE50 => ?_
          refine wpList_nil ?_
          clear a_38 HE39 a_40 HE41 HH35 a_42 HE43 a_47 HE48 hK45 K_44
          refine nrm ?_
          refine wp_seq ?_
          refine rg ?_
          refine pl_x HE50 HH46 (wt0 rfl) (x_move rfl) rfl rfl fun a_51 HE52 => ?_
          refine pl_x HE52 HH46 (wt0 rfl) (x_len Tryz.underlying25 rfl) rfl rfl fun a_53 HE54 => ?_
          refine pl_x HE54 HH46 (wt0 rfl) (x_gtr rfl rfl) rfl rfl fun a_55 HE56 => ?_
          refine wpList_nil ?_
          clear a_49 HE50 a_51 HE52 a_53 HE54
          refine nrm ?_
          refine cnd_d HE56 rfl (fun hc30 => ?_) (fun hc30 => ?_)
          · omega
          · refine wp_skip ?_
            refine blk_n ?_
            refine nrm ?_
            refine rg ?_
            refine pl_x HE56 HH46 (wt0 rfl) (x_move rfl) rfl rfl fun a_57 HE58 => ?_
            refine pl_x HE58 HH46 (wt0 rfl) (x_sub rfl rfl (by exact ⟨by omega, by omega⟩)) rfl rfl fun a_59 HE60 => ?_
            refine pl_x HE60 HH46 (wt0 rfl) (x_assign rfl) rfl rfl fun a_61 HE62 => ?_
            refine wpList_nil ?_
            clear a_55 HE56 a_57 HE58 a_59 HE60
            have E31 : powN a0 (k + 1) = (mulN (powN a0 k) a0) := by
              rfl
            exact nrm ⟨a1.toNat - (k + 1), (by omega), k + 1, Ar29_0, cr29_0, Sr29, rfl, HE62.sub ⟨(lkI rfl (by first | rfl | omega | (simp [hc22, hc24, p27_0, hc28, hc30]; done))), (by rw [E31]; rfl), rfl, trivial⟩, ((HH46.sel [0] (by decide) rfl).to (by first | rfl | (rw [E31]; done) | (rw [E31]; rfl) | (simp only [E31]; done) | (simp only [E31]; rfl) | (rw [E31]; simp only [List.length_set]; done))), (by first | omega | assumption | (simp; done) | simp_all)⟩
        · refine wp_exit ?_
          refine (thn_exit (thn_exit (blk_hit ?_)))
          refine nrm ?_
          refine wp_seq ?_
          refine rg ?_
          refine pl_x HE39 HH35 (wt0 rfl) (x_move rfl) rfl rfl fun a_63 HE64 => ?_
          refine pl_x HE64 HH35 (wt0 rfl) (x_assign rfl) rfl rfl fun a_65 HE66 => ?_
          refine pl_x HE66 HH35 (wt0 rfl) (x_assign rfl) rfl rfl fun a_67 HE68 => ?_
          refine wpList_nil ?_
          clear a_38 HE39 a_63 HE64 a_65 HE66
          refine nrm ?_
          refine wp_ret ?_
          refine ret2 HE68 rfl (rv_tmp rfl) (rv_tmp rfl) ?_
          have hF : (powNat a0 a1) = (powN a0 k, 0) := by
            show (powN a0 a1.toNat, (0 : Int)) = _; rw [show a1.toNat = k from by omega]
          exact ⟨A_6, c_6, by first | (rw [hF] <;> rfl) | rfl | (rw [hF]; simp only [Ending.returned.injEq, Value.slice.injEq, true_and, and_true]; first | omega | (simp; done)) | (rw [hF]; simp; omega), by rw [hF]; exact (HH35.so (i := 0) rfl), HH35.below⟩

set_option maxRecDepth 100000 in
set_option maxHeartbeats 4000000 in
theorem impl_limited (M : Nat → Prop) (A0 : Option Addr) (c0 : Nat) (a0 : (List Int)) (S0 : Nat → Prop) (w : World) (HM : Held M w [rSo eInt S0 A0 c0 a0] w) :
    Calls Tryz.prog 45 #[.slice A0 a0.length c0] w fun e w' => ∃ (AR0' : Option Addr) (cR0' : Nat) (SR0' : Nat → Prop), e = .returned (.tuple #[.slice AR0' (limF a0).1.length cR0', .int .i64 ((limF a0).2)]) ∧ Held M w [rSo eInt SR0' AR0' cR0' ((limF a0).1)] w' := by
  have HH1 := HM
  refine enter (n := 8) Tryz.func45 rfl rfl rfl fun a_2 HE3 => ?_
  refine wp_seq ?_
  refine rg ?_
  refine pl_x HE3 HH1 (wt0 rfl) (x_assign rfl) rfl rfl fun a_4 HE5 => ?_
  refine pl_x HE5 HH1 (wt0 rfl) (x_assign rfl) rfl rfl fun a_6 HE7 => ?_
  refine wpList_nil ?_
  clear a_2 HE3 a_4 HE5
  refine nrm ?_
  refine wp_seq ?_
  refine wp_seq ?_
  refine rg ?_
  refine pl_x HE7 HH1 (wt0 rfl) (x_move rfl) rfl rfl fun a_8 HE9 => ?_
  refine pl_x HE9 HH1 (wt0 rfl) (x_len Tryz.underlying25 rfl) rfl rfl fun a_10 HE11 => ?_
  refine pl_x HE11 HH1 (wt0 rfl) (x_gtr rfl rfl) rfl rfl fun a_12 HE13 => ?_
  refine wpList_nil ?_
  clear a_6 HE7 a_8 HE9 a_10 HE11
  refine nrm ?_
  refine cnd_d HE13 rfl (fun hc21 => ?_) (fun hc21 => ?_)
  · refine wp_seq ?_
    refine rg ?_
    refine pl_x HE13 HH1 (wt0 rfl) (x_assign rfl) rfl rfl fun a_14 HE15 => ?_
    refine pl_x HE15 HH1 (wt0 rfl) (x_assign rfl) rfl rfl fun a_16 HE17 => ?_
    refine wpList_nil ?_
    clear a_12 HE13 a_14 HE15
    refine nrm ?_
    refine wp_ret ?_
    refine (thn_ret ?_)
    refine ret2 HE17 rfl (rv_tmp rfl) (rv_tmp rfl) ?_
    have HH18 := HH1.vecNil eInt 2
    have HH19 := HH18.vecSo
    have hF : (limF a0) = ([], 5) := by
      unfold limF; first | (rw [if_pos (by omega)]; done) | (rw [if_neg (by omega)]; done)
    exact ⟨_, _, _, by first | (rw [hF] <;> rfl) | rfl | (rw [hF]; simp only [Ending.returned.injEq, Value.slice.injEq, true_and, and_true]; first | omega | (simp; done)) | (rw [hF]; simp; omega), by rw [hF]; exact HH19.sel [0] (by decide) rfl⟩
  · refine wp_skip ?_
    refine nrm ?_
    refine wp_seq ?_
    refine rg ?_
    refine pl_x HE13 HH1 (wt0 rfl) (x_move rfl) rfl rfl fun a_20 HE21 => ?_
    refine pl_x HE21 HH1 (wt0 rfl) (x_assign rfl) rfl rfl fun a_22 HE23 => ?_
    refine pl_x HE23 HH1 (wt0 rfl) (x_assign rfl) rfl rfl fun a_24 HE25 => ?_
    refine wpList_nil ?_
    clear a_12 HE13 a_20 HE21 a_22 HE23
    refine nrm ?_
    refine wp_ret ?_
    refine ret2 HE25 rfl (rv_tmp rfl) (rv_tmp rfl) ?_
    have hF : (limF a0) = (a0, 0) := by
      unfold limF; first | (rw [if_pos (by omega)]; done) | (rw [if_neg (by omega)]; done)
    exact ⟨_, _, _, by first | (rw [hF] <;> rfl) | rfl | (rw [hF]; simp only [Ending.returned.injEq, Value.slice.injEq, true_and, and_true]; first | omega | (simp; done)) | (rw [hF]; simp; omega), by rw [hF]; exact HH1.sel [0] (by decide) rfl⟩

set_option maxRecDepth 100000 in
set_option maxHeartbeats 4000000 in
theorem impl_MultiplyNaturals (A0 : Option Addr) (c0 : Nat) (a0 : (List Int)) (A1 : Option Addr) (c1 : Nat) (a1 : (List Int)) (w : World) (h0 : Sl eInt w (Old w) A0 c0 a0) (h1 : Sl eInt w (Old w) A1 c1 a1) :
    Calls Tryz.prog 11 #[.slice A0 a0.length c0, .slice A1 a1.length c1] w fun e w' => ∃ (A0' : Option Addr) (c0' : Nat), e = .returned (.tuple #[.slice A0' (mulNats a0 a1).1.length c0', .int .i64 (mulNats a0 a1).2]) ∧ So eInt w' (Fr w w') A0' c0' (mulNats a0 a1).1 ∧ Below w.heap.size w w' := by
  have l0 := h0.len
  have l1 := h1.len
  have HH1 := Held.start Nob w
  refine enter (n := 17) Tryz.func11 rfl rfl rfl fun a_2 HE3 => ?_
  refine wp_seq ?_
  refine rg ?_
  refine pl_x HE3 HH1 (wt0 rfl) (x_assign rfl) rfl rfl fun a_4 HE5 => ?_
  refine pl_x HE5 HH1 (wt0 rfl) (x_assign rfl) rfl rfl fun a_6 HE7 => ?_
  refine wpList_nil ?_
  clear a_2 HE3 a_4 HE5
  refine nrm ?_
  refine wp_seq ?_
  refine wp_seq ?_
  refine rg ?_
  refine pl_x HE7 HH1 (wt0 rfl) (x_move rfl) rfl rfl fun a_8 HE9 => ?_
  refine pl_x HE9 HH1 (wt0 rfl) (x_move rfl) rfl rfl fun a_10 HE11 => ?_
  refine pl fun K_12 hK13 => ?_
  refine st_lit (m := 2) (cs := [.slice A0 (a0.length) c0, .slice A1 (a1.length) c1]) (e := 25) HE11 HH1 (run_lit ts_51 HE11 (vs := [.slice A0 (a0.length) c0, .slice A1 (a1.length) c1]) rfl rfl (by simp [Value.cells]) rfl (by decide)) (wt0 rfl) rfl rfl fun q21 a_14 w' HE15 HH16 => hK13 _ _ ?_
  refine pl fun K_17 hK18 => ?_
  refine st_call HE15 (wt0 rfl) rfl rfl rfl en_44 rfl rfl (impl_naturals _ _ ([a0, a1] : List (List Int)) _ (Held.slLit (E := (eSl eInt)) (css := [[.slice A0 (a0.length) c0], [.slice A1 (a1.length) c1]]) (xs := [a0, a1]) (i := 0) HH16 rfl rfl (by unfold maxLen; simp) (fun i x hx => by match i with | 0 => exact ⟨_, rfl, by simp at hx; subst hx; exact ⟨_, _, rfl, (HH16.old h0)⟩⟩ | 1 => exact ⟨_, rfl, by simp at hx; subst hx; exact ⟨_, _, rfl, (HH16.old h1)⟩⟩ | i + 2 => simp at hx))) fun e w' hr => ?_
  obtain ⟨rfl, hbr22⟩ := hr
  have HH19 := HH16.on hbr22
  refine ⟨_, rfl, fun a_20 HE21 => hK18 _ _ ?_⟩
  refine pl_x HE21 HH19 (wt0 rfl) (x_not rfl) rfl rfl fun a_22 HE23 => ?_
  refine wpList_nil ?_
  clear a_6 HE7 a_8 HE9 a_10 HE11 HH1 K_12 hK13 HH16 a_14 HE15 a_20 HE21 hK18 K_17
  refine nrm ?_
  refine cnd_nb HE23 rfl (fun hc23 => ?_) (fun hc23 => ?_)
  · refine wp_seq ?_
    refine rg ?_
    refine pl_x HE23 HH19 (wt0 rfl) (x_assign rfl) rfl rfl fun a_24 HE25 => ?_
    refine pl_x HE25 HH19 (wt0 rfl) (x_assign rfl) rfl rfl fun a_26 HE27 => ?_
    refine wpList_nil ?_
    clear a_22 HE23 a_24 HE25
    refine nrm ?_
    refine wp_ret ?_
    refine (thn_ret ?_)
    refine ret2 HE27 rfl (rv_tmp rfl) (rv_tmp rfl) ?_
    have hF : (mulNats a0 a1) = ([], 1) := by
      unfold mulNats; first | (rw [if_neg (natsB_f (by assumption))]; done) | (rw [if_pos hN]; unfold limF; rfl)
    exact ⟨none, 0, by first | (rw [hF] <;> rfl) | rfl | (rw [hF]; simp only [Ending.returned.injEq, Value.slice.injEq, true_and, and_true]; first | omega | (simp; done)) | (rw [hF]; simp; omega), by rw [hF]; exact (So.nil (Nat.zero_le _)), HH19.below⟩
  · have hN := natsB_t hc23
    have hN0 := isNat_f hN.1
    have hN1 := isNat_f hN.2
    have hM0 := mulN_len hN0.1 hN1.1
    have hN2 := hN0.1
    have hN3 := hN1.1
    have hN4 := hN0.2
    have hN5 := hN1.2
    refine wp_skip ?_
    refine nrm ?_
    refine wp_seq ?_
    refine rg ?_
    refine pl_x HE23 HH19 (wt0 rfl) (x_move rfl) rfl rfl fun a_28 HE29 => ?_
    refine pl_x HE29 HH19 (wt0 rfl) (x_move rfl) rfl rfl fun a_30 HE31 => ?_
    refine pl fun K_32 hK33 => ?_
    refine st_call HE31 (wt0 rfl) rfl rfl rfl en_43 rfl rfl (impl_multiply _ _ a0 _ _ a1 _ (HH19.old h0) (HH19.old h1) (by assumption) (by first | assumption | (intro x hx; simp at hx; omega)) (by first | omega | simp) (by first | omega | simp)) fun e w' hr => ?_
    obtain ⟨Ar24_0, cr24_0, rfl, hor24_0, hbr24⟩ := hr
    obtain ⟨Sr24, HH34⟩ := HH19.newS hbr24 hor24_0
    refine ⟨_, rfl, fun a_35 HE36 => hK33 _ _ ?_⟩
    refine pl fun K_37 hK38 => ?_
    have HH39 : Held Nob w ([rSo eInt Sr24 Ar24_0 cr24_0 (mulN a0 a1)] ++ [rBlk q21 25 [.slice A0 (a0.length) c0, .slice A1 (a1.length) c1]]) _ := HH34
    refine st_call HE36 (wt0 rfl) rfl rfl rfl en_45 rfl rfl (impl_limited (Foot [rSo eInt Sr24 Ar24_0 cr24_0 (mulN a0 a1)]) _ _ (mulN a0 a1) _ _ HH39.focus ) fun e w' hr => ?_
    obtain ⟨Ar25_90, cr25_90, Sr25_90, rfl, hbr25⟩ := hr
    have HH40 := HH39.back hbr25
    clear hbr25
    have HH41 : Held Nob w ([rSo eInt Sr25_90 Ar25_90 cr25_90 ((limF (mulN a0 a1)).1)] ++ [rBlk q21 25 [.slice A0 (a0.length) c0, .slice A1 (a1.length) c1]]) _ := HH40
    refine ⟨_, rfl, fun a_42 HE43 => hK38 _ _ ?_⟩
    refine pl_x HE43 HH41 (wt0 rfl) (x_extract rfl rfl) rfl rfl fun a_44 HE45 => ?_
    refine pl_x HE45 HH41 (wt0 rfl) (x_extract rfl rfl) rfl rfl fun a_46 HE47 => ?_
    refine pl_x HE47 HH41 (wt0 rfl) (x_assign rfl) rfl rfl fun a_48 HE49 => ?_
    refine pl_x HE49 HH41 (wt0 rfl) (x_assign rfl) rfl rfl fun a_50 HE51 => ?_
    refine wpList_nil ?_
    clear a_22 HE23 a_28 HE29 HH19 a_30 HE31 K_32 hK33 HH34 HH39 HH40 a_35 HE36 a_42 HE43 a_44 HE45 a_46 HE47 a_48 HE49 hK38 K_37
    refine nrm ?_
    refine wp_ret ?_
    refine ret2 HE51 rfl (rv_tmp rfl) (rv_tmp rfl) ?_
    have hF : (mulNats a0 a1) = ((limF (mulN a0 a1)).1, (limF (mulN a0 a1)).2) := by
      unfold mulNats; first | (rw [if_neg (natsB_f (by assumption))]; done) | (rw [if_pos hN]; unfold limF; rfl)
    exact ⟨Ar25_90, cr25_90, by first | (rw [hF] <;> rfl) | rfl | (rw [hF]; simp only [Ending.returned.injEq, Value.slice.injEq, true_and, and_true]; first | omega | (simp; done)) | (rw [hF]; simp; omega), by rw [hF]; exact (HH41.so (i := 0) rfl), HH41.below⟩

theorem kn_Known (a0 : Int) (w : World) (hG : Glob2 w) (k : known a0 = (knownL a0, 0)) : Calls Tryz.prog 12 #[.int .i64 a0] w fun e w' => ∃ (A0' : Option Addr) (c0' : Nat), e = .returned (.tuple #[.slice A0' (knownL a0).length c0', .int .i64 0]) ∧ So eFraction w' (Fr w w') A0' c0' (knownL a0) ∧ Below w.heap.size w w' := by
  have h := impl_KnownFractions a0 w hG
  rw [k] at h; exact h

theorem kn_Mul (A0 : Option Addr) (c0 : Nat) (a0 : List Int) (A1 : Option Addr) (c1 : Nat) (a1 n : List Int) (w : World) (h0 : Sl eInt w (Old w) A0 c0 a0) (h1 : Sl eInt w (Old w) A1 c1 a1) (k : mulNats a0 a1 = (n, 0)) : Calls Tryz.prog 11 #[.slice A0 a0.length c0, .slice A1 a1.length c1] w fun e w' => ∃ (A0' : Option Addr) (c0' : Nat), e = .returned (.tuple #[.slice A0' n.length c0', .int .i64 0]) ∧ So eInt w' (Fr w w') A0' c0' n ∧ Below w.heap.size w w' := by
  have h := impl_MultiplyNaturals A0 c0 a0 A1 c1 a1 w h0 h1
  rw [k] at h; exact h

theorem kn_Run (A0 : Option Addr) (c0 : Nat) (a0 : List tFraction) (A1 : Option Addr) (c1 : Nat) (a1 : List Int) (a2 : Int) (w : World) (h0 : Sl eFraction w (Old w) A0 c0 a0) (h1 : Sl eInt w (Old w) A1 c1 a1) (k : (runFracs a0 a1 a2).2.2 = (true, 0)) : Calls Tryz.prog 13 #[.slice A0 a0.length c0, .slice A1 a1.length c1, .int .i64 a2] w fun e w' => ∃ (A0' : Option Addr) (c0' : Nat), e = .returned (.tuple #[.slice A0' (runFracs a0 a1 a2).1.length c0', .int .i64 (runFracs a0 a1 a2).2.1, .bool true, .int .i64 0]) ∧ So eInt w' (Fr w w') A0' c0' (runFracs a0 a1 a2).1 ∧ Below w.heap.size w w' := by
  have h := impl_RunFractions A0 c0 a0 A1 c1 a1 a2 w h0 h1
  rw [k] at h; exact h

theorem kn_Exp (A0 : Option Addr) (c0 : Nat) (a0 : List Int) (A1 : Option Addr) (c1 : Nat) (a1 E R : List Int) (w : World) (h0 : Sl eInt w (Old w) A0 c0 a0) (h1 : Sl eInt w (Old w) A1 c1 a1) (k : expsAt a0 a1 = (E, R, 0)) : Calls Tryz.prog 14 #[.slice A0 a0.length c0, .slice A1 a1.length c1] w fun e w' => ∃ (A0' : Option Addr) (c0' : Nat) (S0' : Nat → Prop) (A1' : Option Addr) (c1' : Nat) (S1' : Nat → Prop), e = .returned (.tuple #[.slice A0' E.length c0', .slice A1' R.length c1', .int .i64 0]) ∧ Held Nob w [rSo eInt S0' A0' c0' E, rSo eInt S1' A1' c1' R] w' := by
  have h := impl_ExponentsAt A0 c0 a0 A1 c1 a1 w h0 h1
  rw [k] at h; exact h

theorem kn_Seen (A0 : Option Addr) (c0 : Nat) (a0 : List tFraction) (A1 : Option Addr) (c1 : Nat) (a1 : List Int) (a2 a3 : Int) (E : List Int) (w : World) (h0 : Sl eFraction w (Old w) A0 c0 a0) (h1 : Sl eInt w (Old w) A1 c1 a1) (q0 : -9223372036854775808 ≤ a2 ∧ a2 ≤ 9223372036854775807) (k : powersSeen a0 a1 a2 a3 = (E, 0)) : Calls Tryz.prog 16 #[.slice A0 a0.length c0, .slice A1 a1.length c1, .int .i64 a2, .int .i64 a3] w fun e w' => ∃ (A0' : Option Addr) (c0' : Nat), e = .returned (.tuple #[.slice A0' E.length c0', .int .i64 0]) ∧ So eInt w' (Fr w w') A0' c0' E ∧ Below w.heap.size w w' := by
  have h := impl_PowersSeen A0 c0 a0 A1 c1 a1 a2 a3 w h0 h1 q0
  rw [k] at h; exact h

theorem kn_Nums (A0 : Option Addr) (c0 : Nat) (a0 : List Int) (A1 : Option Addr) (c1 : Nat) (a1 : List Int) (w : World) (h0 : Sl eInt w (Old w) A0 c0 a0) (h1 : Sl eInt w (Old w) A1 c1 a1) (k : a0 = a1) : Calls Tryz.prog 15 #[.slice A0 a0.length c0, .slice A1 a1.length c1] w fun e w' => e = .returned (.bool true) ∧ Below w.heap.size w w' := by
  have h := laws_b10Nums A0 c0 a0 A1 c1 a1 w h0 h1
  have e : numsB a0 a1 = true := by rw [k]; exact numsB_refl a1
  rw [e] at h; exact h

theorem mul_b2 {a b : Int} (ha : 0 ≤ a ∧ a < 6) (hb : 0 ≤ b ∧ b < 5) : 0 ≤ a * b ∧ a * b ≤ 30 :=
  ⟨Int.mul_nonneg ha.1 hb.1, Int.le_trans (Int.mul_le_mul (by omega : a ≤ 5) (by omega : b ≤ 4) hb.1 (by omega)) (by omega)⟩

set_option maxRecDepth 100000 in
set_option maxHeartbeats 4000000 in
theorem law_FnKnown (A0 : Option Addr) (c0 : Nat) (a0 : (List Int)) (w : World) (h0 : Sl eByte w (Old w) A0 c0 a0) (hG : Glob2 w) :
    Calls Tryz.prog 3 #[.slice A0 a0.length c0] w fun e w' => e = .returned (.bool true) ∧ Below w.heap.size w w' := by
  have l0 := h0.len
  have hA := atB_bd a0 0 6 (by omega)
  have hB := atB_bd a0 1 5 (by omega)
  have hC := mul_b2 hA hB
  have hKn := know_facts hA hB
  have HH1 := Held.start Nob w
  refine enter (n := 176) Tryz.func3 rfl rfl rfl fun a_2 HE3 => ?_
  refine wp_seq ?_
  refine rg ?_
  refine pl_x HE3 HH1 (wt0 rfl) (x_assign rfl) rfl rfl fun a_4 HE5 => ?_
  refine wpList_nil ?_
  clear a_2 HE3
  refine nrm ?_
  refine wp_seq ?_
  refine wp_seq ?_
  refine rg ?_
  refine pl_x HE5 HH1 (wt0 rfl) (x_move rfl) rfl rfl fun a_6 HE7 => ?_
  refine pl fun K_8 hK9 => ?_
  refine st_call HE7 (wt0 rfl) rfl rfl rfl en_8 rfl rfl (laws_b10Long _ _ a0 _ (HH1.old h0)) fun e w' hr => ?_
  obtain ⟨rfl, rfl⟩ := hr
  refine ⟨_, rfl, fun a_10 HE11 => hK9 _ _ ?_⟩
  refine wpList_nil ?_
  clear a_4 HE5 a_6 HE7 hK9 K_8
  refine nrm ?_
  refine cnd_b HE11 rfl (fun hc22 => ?_) (fun hc22 => ?_)
  · refine wp_seq ?_
    refine rg ?_
    refine pl_x HE11 HH1 (wt0 rfl) (x_assign rfl) rfl rfl fun a_12 HE13 => ?_
    refine wpList_nil ?_
    clear a_10 HE11
    refine nrm ?_
    refine wp_ret ?_
    refine (thn_ret ?_)
    refine ret1 HE13 rfl (rv_tmp rfl) ?_
    have hF : true = true := by
      rfl
    exact ⟨by first | (rw [hF] <;> rfl) | rfl | (rw [hF]; simp only [Ending.returned.injEq, Value.slice.injEq, true_and, and_true]; first | omega | (simp; done)) | (rw [hF]; simp; omega), HH1.below⟩
  · refine wp_skip ?_
    refine nrm ?_
    refine wp_seq ?_
    refine rg ?_
    refine pl_x HE11 HH1 (wt0 rfl) (x_move rfl) rfl rfl fun a_14 HE15 => ?_
    refine pl fun K_16 hK17 => ?_
    refine st_call HE15 (wt0 rfl) rfl rfl rfl en_9 rfl rfl (laws_b10At _ _ a0 0 6 _ (HH1.old h0) (by omega) (by omega)) fun e w' hr => ?_
    have hAr23_0 := atB_bd a0 0 6 (by omega)
    obtain ⟨rfl, hbr23⟩ := hr
    have HH18 := HH1.on hbr23
    refine ⟨_, rfl, fun a_19 HE20 => hK17 _ _ ?_⟩
    refine pl_x HE20 HH18 (wt0 rfl) (x_assign rfl) rfl rfl fun a_21 HE22 => ?_
    refine wpList_nil ?_
    clear a_10 HE11 HH1 a_14 HE15 a_19 HE20 hK17 K_16
    refine nrm ?_
    refine wp_seq ?_
    refine rg ?_
    refine pl_x HE22 HH18 (wt0 rfl) (x_move rfl) rfl rfl fun a_23 HE24 => ?_
    refine pl fun K_25 hK26 => ?_
    refine st_call HE24 (wt0 rfl) rfl rfl rfl en_9 rfl rfl (laws_b10At _ _ a0 1 5 _ (HH18.old h0) (by omega) (by omega)) fun e w' hr => ?_
    have hAr24_0 := atB_bd a0 1 5 (by omega)
    obtain ⟨rfl, hbr24⟩ := hr
    have HH27 := HH18.on hbr24
    refine ⟨_, rfl, fun a_28 HE29 => hK26 _ _ ?_⟩
    refine pl_x HE29 HH27 (wt0 rfl) (x_assign rfl) rfl rfl fun a_30 HE31 => ?_
    refine wpList_nil ?_
    clear a_21 HE22 HH18 a_23 HE24 a_28 HE29 hK26 K_25
    refine nrm ?_
    refine wp_seq ?_
    refine rg ?_
    refine pl fun K_32 hK33 => ?_
    refine st_lit (m := 1) (cs := [.int .i64 (2)]) (e := 2) HE31 HH27 (run_lit ts_25 HE31 (vs := [.int .i64 (2)]) rfl rfl (by simp [Value.cells]) rfl (by decide)) (wt0 rfl) rfl rfl fun q25 a_34 w' HE35 HH36 => hK33 _ _ ?_
    refine pl_x HE35 HH36 (wt0 rfl) (x_move rfl) rfl rfl fun a_37 HE38 => ?_
    refine pl fun K_39 hK40 => ?_
    have HH41 := Held.vecFlat (E := eInt) (xs := [2]) (css := [[.int .i64 (2)]]) HH36 rfl (by unfold maxLen; simp) (fun i x hx => by match i with | 0 => exact ⟨_, rfl, fun _ => by simp at hx; subst hx; exact (oI (by exact ⟨by omega, by omega⟩))⟩ | i + 1 => simp at hx)
    refine st_call HE38 (wt0 rfl) rfl rfl rfl en_10 rfl rfl (impl_PowerNatural _ _ ([2] : List Int) (atB a0 0 6) _ (HH41.vecSl (i := 0) rfl) (by exact one_limbs (by omega)) (by rfl) (by decide) (by omega)) fun e w' hr => ?_
    obtain ⟨Ar26_0, cr26_0, rfl, hor26_0, hbr26⟩ := hr
    obtain ⟨Sr26, HH42⟩ := HH41.newS hbr26 hor26_0
    refine ⟨_, rfl, fun a_43 HE44 => hK40 _ _ ?_⟩
    refine pl_x HE44 HH42 (wt0 rfl) (x_move rfl) rfl rfl fun a_45 HE46 => ?_
    refine pl_x HE46 HH42 (wt0 rfl) (x_extract rfl rfl) rfl rfl fun a_47 HE48 => ?_
    refine pl_x HE48 HH42 (wt0 rfl) (x_extract rfl rfl) rfl rfl fun a_49 HE50 => ?_
    refine pl_x HE50 HH42 (wt0 rfl) (x_assign rfl) rfl rfl fun a_51 HE52 => ?_
    refine pl_x HE52 HH42 (wt0 rfl) (x_assign rfl) rfl rfl fun a_53 HE54 => ?_
    refine wpList_nil ?_
    clear a_30 HE31 HH27 a_34 HE35 K_32 hK33 HH36 HH41 a_37 HE38 a_43 HE44 a_45 HE46 a_47 HE48 a_49 HE50 a_51 HE52 hK40 K_39
    refine nrm ?_
    refine wp_seq ?_
    refine rg ?_
    refine pl fun K_55 hK56 => ?_
    refine st_lit (m := 1) (cs := [.int .i64 (3)]) (e := 2) HE54 HH42 (run_lit ts_25 HE54 (vs := [.int .i64 (3)]) rfl rfl (by simp [Value.cells]) rfl (by decide)) (wt0 rfl) rfl rfl fun q27 a_57 w' HE58 HH59 => hK56 _ _ ?_
    refine pl_x HE58 HH59 (wt0 rfl) (x_move rfl) rfl rfl fun a_60 HE61 => ?_
    refine pl fun K_62 hK63 => ?_
    have HH64 := Held.vecFlat (E := eInt) (xs := [3]) (css := [[.int .i64 (3)]]) HH59 rfl (by unfold maxLen; simp) (fun i x hx => by match i with | 0 => exact ⟨_, rfl, fun _ => by simp at hx; subst hx; exact (oI (by exact ⟨by omega, by omega⟩))⟩ | i + 1 => simp at hx)
    refine st_call HE61 (wt0 rfl) rfl rfl rfl en_10 rfl rfl (impl_PowerNatural _ _ ([3] : List Int) (atB a0 1 5) _ (HH64.vecSl (i := 0) rfl) (by exact one_limbs (by omega)) (by rfl) (by decide) (by omega)) fun e w' hr => ?_
    obtain ⟨Ar28_0, cr28_0, rfl, hor28_0, hbr28⟩ := hr
    obtain ⟨Sr28, HH65⟩ := HH64.newS hbr28 hor28_0
    refine ⟨_, rfl, fun a_66 HE67 => hK63 _ _ ?_⟩
    refine pl_x HE67 HH65 (wt0 rfl) (x_move rfl) rfl rfl fun a_68 HE69 => ?_
    refine pl_x HE69 HH65 (wt0 rfl) (x_extract rfl rfl) rfl rfl fun a_70 HE71 => ?_
    refine pl_x HE71 HH65 (wt0 rfl) (x_extract rfl rfl) rfl rfl fun a_72 HE73 => ?_
    refine pl_x HE73 HH65 (wt0 rfl) (x_assign rfl) rfl rfl fun a_74 HE75 => ?_
    refine pl_x HE75 HH65 (wt0 rfl) (x_assign rfl) rfl rfl fun a_76 HE77 => ?_
    refine wpList_nil ?_
    clear a_53 HE54 HH42 a_57 HE58 K_55 hK56 HH59 HH64 a_60 HE61 a_66 HE67 a_68 HE69 a_70 HE71 a_72 HE73 a_74 HE75 hK63 K_62
    refine nrm ?_
    refine wp_seq ?_
    refine rg ?_
    refine pl_x HE77 HH65 (wt0 rfl) (x_move rfl) rfl rfl fun a_78 HE79 => ?_
    refine pl_x HE79 HH65 (wt0 rfl) (x_move rfl) rfl rfl fun a_80 HE81 => ?_
    refine pl fun K_82 hK83 => ?_
    refine st_call HE81 (wt0 rfl) rfl rfl rfl en_11 rfl rfl (kn_Mul _ _ (powN ([2] : List Int) ((atB a0 0 6)).toNat) _ _ (powN ([3] : List Int) ((atB a0 1 5)).toNat) (nn (atB a0 0 6) (atB a0 1 5)) _ (HH65.sl (i := 2) rfl) (HH65.sl (i := 0) rfl) (by exact nn_ok hA hB)) fun e w' hr => ?_
    obtain ⟨Ar29_0, cr29_0, rfl, hor29_0, hbr29⟩ := hr
    obtain ⟨Sr29, HH84⟩ := HH65.newS hbr29 hor29_0
    refine ⟨_, rfl, fun a_85 HE86 => hK83 _ _ ?_⟩
    refine pl_x HE86 HH84 (wt0 rfl) (x_move rfl) rfl rfl fun a_87 HE88 => ?_
    refine pl_x HE88 HH84 (wt0 rfl) (x_extract rfl rfl) rfl rfl fun a_89 HE90 => ?_
    refine pl_x HE90 HH84 (wt0 rfl) (x_extract rfl rfl) rfl rfl fun a_91 HE92 => ?_
    refine pl_x HE92 HH84 (wt0 rfl) (x_assign rfl) rfl rfl fun a_93 HE94 => ?_
    refine pl_x HE94 HH84 (wt0 rfl) (x_assign rfl) rfl rfl fun a_95 HE96 => ?_
    refine wpList_nil ?_
    clear a_76 HE77 a_78 HE79 HH65 a_80 HE81 a_85 HE86 a_87 HE88 a_89 HE90 a_91 HE92 a_93 HE94 hK83 K_82
    refine nrm ?_
    refine wp_seq ?_
    refine rg ?_
    refine pl fun K_97 hK98 => ?_
    refine st_call HE96 (wt0 rfl) rfl rfl rfl en_12 rfl rfl (kn_Known 0 _ (HH84.glob2 hG) (by first | exact known_ok (.inl rfl) | exact known_ok (.inr (.inl rfl)) | exact known_ok (.inr (.inr rfl)))) fun e w' hr => ?_
    obtain ⟨Ar30_0, cr30_0, rfl, hor30_0, hbr30⟩ := hr
    obtain ⟨Sr30, HH99⟩ := HH84.newS hbr30 hor30_0
    refine ⟨_, rfl, fun a_100 HE101 => hK98 _ _ ?_⟩
    refine pl_x HE101 HH99 (wt0 rfl) (x_move rfl) rfl rfl fun a_102 HE103 => ?_
    refine pl_x HE103 HH99 (wt0 rfl) (x_extract rfl rfl) rfl rfl fun a_104 HE105 => ?_
    refine pl_x HE105 HH99 (wt0 rfl) (x_extract rfl rfl) rfl rfl fun a_106 HE107 => ?_
    refine pl_x HE107 HH99 (wt0 rfl) (x_assign rfl) rfl rfl fun a_108 HE109 => ?_
    refine pl_x HE109 HH99 (wt0 rfl) (x_assign rfl) rfl rfl fun a_110 HE111 => ?_
    refine wpList_nil ?_
    clear HH84 a_95 HE96 a_100 HE101 a_102 HE103 a_104 HE105 a_106 HE107 a_108 HE109 hK98 K_97
    refine nrm ?_
    refine wp_seq ?_
    refine rg ?_
    refine pl fun K_112 hK113 => ?_
    refine st_call HE111 (wt0 rfl) rfl rfl rfl en_12 rfl rfl (kn_Known 1 _ (HH99.glob2 hG) (by first | exact known_ok (.inl rfl) | exact known_ok (.inr (.inl rfl)) | exact known_ok (.inr (.inr rfl)))) fun e w' hr => ?_
    obtain ⟨Ar31_0, cr31_0, rfl, hor31_0, hbr31⟩ := hr
    obtain ⟨Sr31, HH114⟩ := HH99.newS hbr31 hor31_0
    refine ⟨_, rfl, fun a_115 HE116 => hK113 _ _ ?_⟩
    refine pl_x HE116 HH114 (wt0 rfl) (x_move rfl) rfl rfl fun a_117 HE118 => ?_
    refine pl_x HE118 HH114 (wt0 rfl) (x_extract rfl rfl) rfl rfl fun a_119 HE120 => ?_
    refine pl_x HE120 HH114 (wt0 rfl) (x_extract rfl rfl) rfl rfl fun a_121 HE122 => ?_
    refine pl_x HE122 HH114 (wt0 rfl) (x_assign rfl) rfl rfl fun a_123 HE124 => ?_
    refine pl_x HE124 HH114 (wt0 rfl) (x_assign rfl) rfl rfl fun a_125 HE126 => ?_
    refine wpList_nil ?_
    clear HH99 a_110 HE111 a_115 HE116 a_117 HE118 a_119 HE120 a_121 HE122 a_123 HE124 hK113 K_112
    refine nrm ?_
    refine wp_seq ?_
    refine rg ?_
    refine pl fun K_127 hK128 => ?_
    refine st_call HE126 (wt0 rfl) rfl rfl rfl en_12 rfl rfl (kn_Known 2 _ (HH114.glob2 hG) (by first | exact known_ok (.inl rfl) | exact known_ok (.inr (.inl rfl)) | exact known_ok (.inr (.inr rfl)))) fun e w' hr => ?_
    obtain ⟨Ar32_0, cr32_0, rfl, hor32_0, hbr32⟩ := hr
    obtain ⟨Sr32, HH129⟩ := HH114.newS hbr32 hor32_0
    refine ⟨_, rfl, fun a_130 HE131 => hK128 _ _ ?_⟩
    refine pl_x HE131 HH129 (wt0 rfl) (x_move rfl) rfl rfl fun a_132 HE133 => ?_
    refine pl_x HE133 HH129 (wt0 rfl) (x_extract rfl rfl) rfl rfl fun a_134 HE135 => ?_
    refine pl_x HE135 HH129 (wt0 rfl) (x_extract rfl rfl) rfl rfl fun a_136 HE137 => ?_
    refine pl_x HE137 HH129 (wt0 rfl) (x_assign rfl) rfl rfl fun a_138 HE139 => ?_
    refine pl_x HE139 HH129 (wt0 rfl) (x_assign rfl) rfl rfl fun a_140 HE141 => ?_
    refine wpList_nil ?_
    clear HH114 a_125 HE126 a_130 HE131 a_132 HE133 a_134 HE135 a_136 HE137 a_138 HE139 hK128 K_127
    refine nrm ?_
    refine wp_seq ?_
    refine wp_seq ?_
    refine rg ?_
    refine pl_x HE141 HH129 (wt0 rfl) (x_move rfl) rfl rfl fun a_142 HE143 => ?_
    refine pl_x HE143 HH129 (wt0 rfl) (x_neq rfl rfl) rfl rfl fun a_144 HE145 => ?_
    refine pl_x HE145 HH129 (wt0 rfl) (x_move rfl) rfl rfl fun a_146 HE147 => ?_
    refine pl_x HE147 HH129 (wtT HE147 rfl rfl rfl (bne_f rfl)) (x_move rfl) rfl rfl fun a_148 HE149 => ?_
    refine pl_x HE149 HH129 (wtT HE149 rfl rfl rfl (bne_f rfl)) (x_neq rfl rfl) rfl rfl fun a_150 HE151 => ?_
    refine pl_x HE151 HH129 (wt0 rfl) (x_pickF rfl (bne_f rfl) rfl) rfl rfl fun a_152 HE153 => ?_
    refine pl_x HE153 HH129 (wt0 rfl) (x_move rfl) rfl rfl fun a_154 HE155 => ?_
    refine pl_x HE155 HH129 (wtT HE155 rfl rfl rfl (bne_f rfl)) (x_move rfl) rfl rfl fun a_156 HE157 => ?_
    refine pl_x HE157 HH129 (wtT HE157 rfl rfl rfl (bne_f rfl)) (x_neq rfl rfl) rfl rfl fun a_158 HE159 => ?_
    refine pl_x HE159 HH129 (wt0 rfl) (x_pickF rfl (bne_f rfl) rfl) rfl rfl fun a_160 HE161 => ?_
    refine pl_x HE161 HH129 (wt0 rfl) (x_move rfl) rfl rfl fun a_162 HE163 => ?_
    refine pl_x HE163 HH129 (wtT HE163 rfl rfl rfl (bne_f rfl)) (x_move rfl) rfl rfl fun a_164 HE165 => ?_
    refine pl_x HE165 HH129 (wtT HE165 rfl rfl rfl (bne_f rfl)) (x_neq rfl rfl) rfl rfl fun a_166 HE167 => ?_
    refine pl_x HE167 HH129 (wt0 rfl) (x_pickF rfl (bne_f rfl) rfl) rfl rfl fun a_168 HE169 => ?_
    refine wpList_nil ?_
    clear a_140 HE141 a_142 HE143 a_144 HE145 a_146 HE147 a_148 HE149 a_150 HE151 a_152 HE153 a_154 HE155 a_156 HE157 a_158 HE159 a_160 HE161 a_162 HE163 a_164 HE165 a_166 HE167
    refine nrm ?_
    refine cndF HE169 rfl (bne_f rfl) ?_
    refine wp_skip ?_
    refine nrm ?_
    refine wp_seq ?_
    refine rg ?_
    refine pl_x HE169 HH129 (wt0 rfl) (x_move rfl) rfl rfl fun a_170 HE171 => ?_
    refine pl_x HE171 HH129 (wt0 rfl) (x_move rfl) rfl rfl fun a_172 HE173 => ?_
    refine pl fun K_174 hK175 => ?_
    refine st_call HE173 (wt0 rfl) rfl rfl rfl en_13 rfl rfl (kn_Run _ _ (knownL 0) _ _ (nn (atB a0 0 6) (atB a0 1 5)) 100 _ (HH129.sl (i := 2) rfl) (HH129.sl (i := 3) rfl) (by first | exact hKn.2.1 | exact hKn.2.2.2.1)) fun e w' hr => ?_
    obtain ⟨Ar33_0, cr33_0, rfl, hor33_0, hbr33⟩ := hr
    obtain ⟨Sr33, HH176⟩ := HH129.newS hbr33 hor33_0
    refine ⟨_, rfl, fun a_177 HE178 => hK175 _ _ ?_⟩
    refine pl_x HE178 HH176 (wt0 rfl) (x_move rfl) rfl rfl fun a_179 HE180 => ?_
    refine pl_x HE180 HH176 (wt0 rfl) (x_extract rfl rfl) rfl rfl fun a_181 HE182 => ?_
    refine pl_x HE182 HH176 (wt0 rfl) (x_extract rfl rfl) rfl rfl fun a_183 HE184 => ?_
    refine pl_x HE184 HH176 (wt0 rfl) (x_extract rfl rfl) rfl rfl fun a_185 HE186 => ?_
    refine pl_x HE186 HH176 (wt0 rfl) (x_extract rfl rfl) rfl rfl fun a_187 HE188 => ?_
    refine pl_x HE188 HH176 (wt0 rfl) (x_assign rfl) rfl rfl fun a_189 HE190 => ?_
    refine pl_x HE190 HH176 (wt0 rfl) (x_assign rfl) rfl rfl fun a_191 HE192 => ?_
    refine pl_x HE192 HH176 (wt0 rfl) (x_assign rfl) rfl rfl fun a_193 HE194 => ?_
    refine pl_x HE194 HH176 (wt0 rfl) (x_assign rfl) rfl rfl fun a_195 HE196 => ?_
    refine wpList_nil ?_
    clear a_168 HE169 a_170 HE171 HH129 a_172 HE173 a_177 HE178 a_179 HE180 a_181 HE182 a_183 HE184 a_185 HE186 a_187 HE188 a_189 HE190 a_191 HE192 a_193 HE194 hK175 K_174
    refine nrm ?_
    refine wp_seq ?_
    refine rg ?_
    refine pl_x HE196 HH176 (wt0 rfl) (x_move rfl) rfl rfl fun a_197 HE198 => ?_
    refine pl fun K_199 hK200 => ?_
    refine st_lit (m := 1) (cs := [.int .i64 (3)]) (e := 2) HE198 HH176 (run_lit ts_25 HE198 (vs := [.int .i64 (3)]) rfl rfl (by simp [Value.cells]) rfl (by decide)) (wt0 rfl) rfl rfl fun q34 a_201 w' HE202 HH203 => hK200 _ _ ?_
    refine pl fun K_204 hK205 => ?_
    have HH206 := Held.vecFlat (E := eInt) (xs := [3]) (css := [[.int .i64 (3)]]) HH203 rfl (by unfold maxLen; simp) (fun i x hx => by match i with | 0 => exact ⟨_, rfl, fun _ => by simp at hx; subst hx; exact (oI (by exact ⟨by omega, by omega⟩))⟩ | i + 1 => simp at hx)
    refine st_call HE202 (wt0 rfl) rfl rfl rfl en_14 rfl rfl (kn_Exp _ _ ((runFracs (knownL 0) (nn (atB a0 0 6) (atB a0 1 5)) 100).1) _ _ ([3] : List Int) [(atB a0 0 6) + (atB a0 1 5)] [1] _ (HH206.sl (i := 1) rfl) (HH206.vecSl (i := 0) rfl) (by first | exact hKn.2.2.1 | exact hKn.2.2.2.2)) fun e w' hr => ?_
    obtain ⟨Ar35_0, cr35_0, Sr35_0, Ar35_1, cr35_1, Sr35_1, rfl, hbr35⟩ := hr
    have HH207 := HH206.app hbr35
    clear hbr35
    have HH208 : Held Nob w ([rSo eInt Sr35_0 Ar35_0 cr35_0 ([(atB a0 0 6) + (atB a0 1 5)]), rSo eInt Sr35_1 Ar35_1 cr35_1 ([1] : List Int), rVec eInt 2 (fun b => b = q34) (some ⟨q34, 0, none⟩) (List.length (α := Int) [3]) ([3] : List Int), rSo eInt Sr33 Ar33_0 cr33_0 ((runFracs (knownL 0) (nn (atB a0 0 6) (atB a0 1 5)) 100).1), rSo eFraction Sr32 Ar32_0 cr32_0 (knownL 2), rSo eFraction Sr31 Ar31_0 cr31_0 (knownL 1), rSo eFraction Sr30 Ar30_0 cr30_0 (knownL 0), rSo eInt Sr29 Ar29_0 cr29_0 (nn (atB a0 0 6) (atB a0 1 5)), rSo eInt Sr28 Ar28_0 cr28_0 (powN ([3] : List Int) ((atB a0 1 5)).toNat), rVec eInt 2 (fun b => b = q27) (some ⟨q27, 0, none⟩) (List.length (α := Int) [3]) ([3] : List Int), rSo eInt Sr26 Ar26_0 cr26_0 (powN ([2] : List Int) ((atB a0 0 6)).toNat), rVec eInt 2 (fun b => b = q25) (some ⟨q25, 0, none⟩) (List.length (α := Int) [2]) ([2] : List Int)]) _ := HH207
    refine ⟨_, rfl, fun a_209 HE210 => hK205 _ _ ?_⟩
    refine pl_x HE210 HH208 (wt0 rfl) (x_move rfl) rfl rfl fun a_211 HE212 => ?_
    refine pl_x HE212 HH208 (wt0 rfl) (x_extract rfl rfl) rfl rfl fun a_213 HE214 => ?_
    refine pl_x HE214 HH208 (wt0 rfl) (x_extract rfl rfl) rfl rfl fun a_215 HE216 => ?_
    refine pl_x HE216 HH208 (wt0 rfl) (x_extract rfl rfl) rfl rfl fun a_217 HE218 => ?_
    refine pl_x HE218 HH208 (wt0 rfl) (x_assign rfl) rfl rfl fun a_219 HE220 => ?_
    refine pl_x HE220 HH208 (wt0 rfl) (x_assign rfl) rfl rfl fun a_221 HE222 => ?_
    refine pl_x HE222 HH208 (wt0 rfl) (x_assign rfl) rfl rfl fun a_223 HE224 => ?_
    refine wpList_nil ?_
    clear a_195 HE196 a_197 HE198 HH176 K_199 hK200 HH203 HH206 HH207 a_201 HE202 a_209 HE210 a_211 HE212 a_213 HE214 a_215 HE216 a_217 HE218 a_219 HE220 a_221 HE222 hK205 K_204
    refine nrm ?_
    refine wp_seq ?_
    refine wp_seq ?_
    refine rg ?_
    refine pl_x HE224 HH208 (wt0 rfl) (x_move rfl) rfl rfl fun a_225 HE226 => ?_
    refine pl_x HE226 HH208 (wt0 rfl) (x_neq rfl rfl) rfl rfl fun a_227 HE228 => ?_
    refine pl_x HE228 HH208 (wt0 rfl) (x_move rfl) rfl rfl fun a_229 HE230 => ?_
    refine pl_x HE230 HH208 (wtT HE230 rfl rfl rfl (bne_f rfl)) (x_move rfl) rfl rfl fun a_231 HE232 => ?_
    refine pl_x HE232 HH208 (wtT HE232 rfl rfl rfl (bne_f rfl)) (x_neq rfl rfl) rfl rfl fun a_233 HE234 => ?_
    refine pl_x HE234 HH208 (wt0 rfl) (x_pickF rfl (bne_f rfl) rfl) rfl rfl fun a_235 HE236 => ?_
    refine pl_x HE236 HH208 (wt0 rfl) (x_move rfl) rfl rfl fun a_237 HE238 => ?_
    refine pl_x HE238 HH208 (wtT HE238 rfl rfl rfl (bne_f rfl)) (x_move rfl) rfl rfl fun a_239 HE240 => ?_
    refine pl_x HE240 HH208 (wtT HE240 rfl rfl rfl (bne_f rfl)) (x_not rfl) rfl rfl fun a_241 HE242 => ?_
    refine pl_x HE242 HH208 (wt0 rfl) (x_pickF rfl (bne_f rfl) rfl) rfl rfl fun a_243 HE244 => ?_
    refine pl_x HE244 HH208 (wt0 rfl) (x_move rfl) rfl rfl fun a_245 HE246 => ?_
    refine pl_x HE246 HH208 (wtT HE246 rfl rfl rfl rfl) (x_move rfl) rfl rfl fun a_247 HE248 => ?_
    refine pl_x HE248 HH208 (wtT HE248 rfl rfl rfl rfl) (x_move rfl) rfl rfl fun a_249 HE250 => ?_
    refine pl_x HE250 HH208 (wtT HE250 rfl rfl rfl rfl) (x_move rfl) rfl rfl fun a_251 HE252 => ?_
    refine pl_x HE252 HH208 (wtT HE252 rfl rfl rfl rfl) (x_add rfl rfl (by exact ⟨by omega, by omega⟩)) rfl rfl fun a_253 HE254 => ?_
    refine pl fun K_255 hK256 => ?_
    refine st_lit (m := 1) (cs := [.int .i64 (((atB a0 0 6) + (atB a0 1 5)))]) (e := 2) HE254 HH208 (run_lit ts_25 HE254 (vs := [.int .i64 (((atB a0 0 6) + (atB a0 1 5)))]) rfl rfl (by simp [Value.cells]) rfl (by decide)) (wtT HE254 rfl rfl rfl rfl) rfl rfl fun q36 a_257 w' HE258 HH259 => hK256 _ _ ?_
    refine pl fun K_260 hK261 => ?_
    have HH262 := Held.vecFlat (E := eInt) (xs := [((atB a0 0 6) + (atB a0 1 5))]) (css := [[.int .i64 (((atB a0 0 6) + (atB a0 1 5)))]]) HH259 rfl (by unfold maxLen; simp) (fun i x hx => by match i with | 0 => exact ⟨_, rfl, fun _ => by simp at hx; subst hx; exact (oI (by exact ⟨by omega, by omega⟩))⟩ | i + 1 => simp at hx)
    refine st_call HE258 (wtT HE258 rfl rfl rfl rfl) rfl rfl rfl en_15 rfl rfl (kn_Nums _ _ ([(atB a0 0 6) + (atB a0 1 5)]) _ _ ([((atB a0 0 6) + (atB a0 1 5))] : List Int) _ (HH262.sl (i := 1) rfl) (HH262.vecSl (i := 0) rfl) (by rfl)) fun e w' hr => ?_
    obtain ⟨rfl, hbr37⟩ := hr
    have HH263 := HH262.on hbr37
    refine ⟨_, rfl, fun a_264 HE265 => hK261 _ _ ?_⟩
    refine pl_x HE265 HH263 (wtT HE265 rfl rfl rfl rfl) (x_not rfl) rfl rfl fun a_266 HE267 => ?_
    refine pl_x HE267 HH263 (wt0 rfl) (x_pickF rfl rfl rfl) rfl rfl fun a_268 HE269 => ?_
    refine pl_x HE269 HH263 (wt0 rfl) (x_move rfl) rfl rfl fun a_270 HE271 => ?_
    refine pl_x HE271 HH263 (wtT HE271 rfl rfl rfl rfl) (x_move rfl) rfl rfl fun a_272 HE273 => ?_
    refine pl fun K_274 hK275 => ?_
    refine st_lit (m := 1) (cs := [.int .i64 (1)]) (e := 2) HE273 HH263 (run_lit ts_25 HE273 (vs := [.int .i64 (1)]) rfl rfl (by simp [Value.cells]) rfl (by decide)) (wtT HE273 rfl rfl rfl rfl) rfl rfl fun q38 a_276 w' HE277 HH278 => hK275 _ _ ?_
    refine pl fun K_279 hK280 => ?_
    have HH281 := Held.vecFlat (E := eInt) (xs := [1]) (css := [[.int .i64 (1)]]) HH278 rfl (by unfold maxLen; simp) (fun i x hx => by match i with | 0 => exact ⟨_, rfl, fun _ => by simp at hx; subst hx; exact (oI (by exact ⟨by omega, by omega⟩))⟩ | i + 1 => simp at hx)
    refine st_call HE277 (wtT HE277 rfl rfl rfl rfl) rfl rfl rfl en_15 rfl rfl (kn_Nums _ _ ([1] : List Int) _ _ ([1] : List Int) _ (HH281.sl (i := 3) rfl) (HH281.vecSl (i := 0) rfl) (by rfl)) fun e w' hr => ?_
    obtain ⟨rfl, hbr39⟩ := hr
    have HH282 := HH281.on hbr39
    refine ⟨_, rfl, fun a_283 HE284 => hK280 _ _ ?_⟩
    refine pl_x HE284 HH282 (wtT HE284 rfl rfl rfl rfl) (x_not rfl) rfl rfl fun a_285 HE286 => ?_
    refine pl_x HE286 HH282 (wt0 rfl) (x_pickF rfl rfl rfl) rfl rfl fun a_287 HE288 => ?_
    refine wpList_nil ?_
    clear a_223 HE224 a_225 HE226 a_227 HE228 a_229 HE230 a_231 HE232 a_233 HE234 a_235 HE236 a_237 HE238 a_239 HE240 a_241 HE242 a_243 HE244 a_245 HE246 a_247 HE248 a_249 HE250 a_251 HE252 a_253 HE254 HH208 K_255 hK256 HH259 HH262 a_257 HE258 a_264 HE265 a_266 HE267 a_268 HE269 a_270 HE271 K_260 hK261 a_272 HE273 HH263 K_274 hK275 HH278 HH281 a_276 HE277 a_283 HE284 a_285 HE286 hK280 K_279
    refine nrm ?_
    refine cndF HE288 rfl rfl ?_
    refine wp_skip ?_
    refine nrm ?_
    refine wp_seq ?_
    refine rg ?_
    refine pl_x HE288 HH282 (wt0 rfl) (x_move rfl) rfl rfl fun a_289 HE290 => ?_
    refine pl_x HE290 HH282 (wt0 rfl) (x_move rfl) rfl rfl fun a_291 HE292 => ?_
    refine pl fun K_293 hK294 => ?_
    refine st_call HE292 (wt0 rfl) rfl rfl rfl en_13 rfl rfl (kn_Run _ _ (knownL 1) _ _ (nn (atB a0 0 6) (atB a0 1 5)) 400 _ (HH282.sl (i := 7) rfl) (HH282.sl (i := 9) rfl) (by first | exact hKn.2.1 | exact hKn.2.2.2.1)) fun e w' hr => ?_
    obtain ⟨Ar40_0, cr40_0, rfl, hor40_0, hbr40⟩ := hr
    obtain ⟨Sr40, HH295⟩ := HH282.newS hbr40 hor40_0
    refine ⟨_, rfl, fun a_296 HE297 => hK294 _ _ ?_⟩
    refine pl_x HE297 HH295 (wt0 rfl) (x_move rfl) rfl rfl fun a_298 HE299 => ?_
    refine pl_x HE299 HH295 (wt0 rfl) (x_extract rfl rfl) rfl rfl fun a_300 HE301 => ?_
    refine pl_x HE301 HH295 (wt0 rfl) (x_extract rfl rfl) rfl rfl fun a_302 HE303 => ?_
    refine pl_x HE303 HH295 (wt0 rfl) (x_extract rfl rfl) rfl rfl fun a_304 HE305 => ?_
    refine pl_x HE305 HH295 (wt0 rfl) (x_extract rfl rfl) rfl rfl fun a_306 HE307 => ?_
    refine pl_x HE307 HH295 (wt0 rfl) (x_assign rfl) rfl rfl fun a_308 HE309 => ?_
    refine pl_x HE309 HH295 (wt0 rfl) (x_assign rfl) rfl rfl fun a_310 HE311 => ?_
    refine pl_x HE311 HH295 (wt0 rfl) (x_assign rfl) rfl rfl fun a_312 HE313 => ?_
    refine pl_x HE313 HH295 (wt0 rfl) (x_assign rfl) rfl rfl fun a_314 HE315 => ?_
    refine wpList_nil ?_
    clear a_287 HE288 a_289 HE290 HH282 a_291 HE292 a_296 HE297 a_298 HE299 a_300 HE301 a_302 HE303 a_304 HE305 a_306 HE307 a_308 HE309 a_310 HE311 a_312 HE313 hK294 K_293
    refine nrm ?_
    refine wp_seq ?_
    refine rg ?_
    refine pl_x HE315 HH295 (wt0 rfl) (x_move rfl) rfl rfl fun a_316 HE317 => ?_
    refine pl fun K_318 hK319 => ?_
    refine st_lit (m := 1) (cs := [.int .i64 (5)]) (e := 2) HE317 HH295 (run_lit ts_25 HE317 (vs := [.int .i64 (5)]) rfl rfl (by simp [Value.cells]) rfl (by decide)) (wt0 rfl) rfl rfl fun q41 a_320 w' HE321 HH322 => hK319 _ _ ?_
    refine pl fun K_323 hK324 => ?_
    have HH325 := Held.vecFlat (E := eInt) (xs := [5]) (css := [[.int .i64 (5)]]) HH322 rfl (by unfold maxLen; simp) (fun i x hx => by match i with | 0 => exact ⟨_, rfl, fun _ => by simp at hx; subst hx; exact (oI (by exact ⟨by omega, by omega⟩))⟩ | i + 1 => simp at hx)
    refine st_call HE321 (wt0 rfl) rfl rfl rfl en_14 rfl rfl (kn_Exp _ _ ((runFracs (knownL 1) (nn (atB a0 0 6) (atB a0 1 5)) 400).1) _ _ ([5] : List Int) [(atB a0 0 6) * (atB a0 1 5)] [1] _ (HH325.sl (i := 1) rfl) (HH325.vecSl (i := 0) rfl) (by first | exact hKn.2.2.1 | exact hKn.2.2.2.2)) fun e w' hr => ?_
    obtain ⟨Ar42_0, cr42_0, Sr42_0, Ar42_1, cr42_1, Sr42_1, rfl, hbr42⟩ := hr
    have HH326 := HH325.app hbr42
    clear hbr42
    have HH327 : Held Nob w ([rSo eInt Sr42_0 Ar42_0 cr42_0 ([(atB a0 0 6) * (atB a0 1 5)]), rSo eInt Sr42_1 Ar42_1 cr42_1 ([1] : List Int), rVec eInt 2 (fun b => b = q41) (some ⟨q41, 0, none⟩) (List.length (α := Int) [5]) ([5] : List Int), rSo eInt Sr40 Ar40_0 cr40_0 ((runFracs (knownL 1) (nn (atB a0 0 6) (atB a0 1 5)) 400).1), rVec eInt 2 (fun b => b = q38) (some ⟨q38, 0, none⟩) (List.length (α := Int) [1]) ([1] : List Int), rVec eInt 2 (fun b => b = q36) (some ⟨q36, 0, none⟩) (List.length (α := Int) [((atB a0 0 6) + (atB a0 1 5))]) ([((atB a0 0 6) + (atB a0 1 5))] : List Int), rSo eInt Sr35_0 Ar35_0 cr35_0 ([(atB a0 0 6) + (atB a0 1 5)]), rSo eInt Sr35_1 Ar35_1 cr35_1 ([1] : List Int), rVec eInt 2 (fun b => b = q34) (some ⟨q34, 0, none⟩) (List.length (α := Int) [3]) ([3] : List Int), rSo eInt Sr33 Ar33_0 cr33_0 ((runFracs (knownL 0) (nn (atB a0 0 6) (atB a0 1 5)) 100).1), rSo eFraction Sr32 Ar32_0 cr32_0 (knownL 2), rSo eFraction Sr31 Ar31_0 cr31_0 (knownL 1), rSo eFraction Sr30 Ar30_0 cr30_0 (knownL 0), rSo eInt Sr29 Ar29_0 cr29_0 (nn (atB a0 0 6) (atB a0 1 5)), rSo eInt Sr28 Ar28_0 cr28_0 (powN ([3] : List Int) ((atB a0 1 5)).toNat), rVec eInt 2 (fun b => b = q27) (some ⟨q27, 0, none⟩) (List.length (α := Int) [3]) ([3] : List Int), rSo eInt Sr26 Ar26_0 cr26_0 (powN ([2] : List Int) ((atB a0 0 6)).toNat), rVec eInt 2 (fun b => b = q25) (some ⟨q25, 0, none⟩) (List.length (α := Int) [2]) ([2] : List Int)]) _ := HH326
    refine ⟨_, rfl, fun a_328 HE329 => hK324 _ _ ?_⟩
    refine pl_x HE329 HH327 (wt0 rfl) (x_move rfl) rfl rfl fun a_330 HE331 => ?_
    refine pl_x HE331 HH327 (wt0 rfl) (x_extract rfl rfl) rfl rfl fun a_332 HE333 => ?_
    refine pl_x HE333 HH327 (wt0 rfl) (x_extract rfl rfl) rfl rfl fun a_334 HE335 => ?_
    refine pl_x HE335 HH327 (wt0 rfl) (x_extract rfl rfl) rfl rfl fun a_336 HE337 => ?_
    refine pl_x HE337 HH327 (wt0 rfl) (x_assign rfl) rfl rfl fun a_338 HE339 => ?_
    refine pl_x HE339 HH327 (wt0 rfl) (x_assign rfl) rfl rfl fun a_340 HE341 => ?_
    refine pl_x HE341 HH327 (wt0 rfl) (x_assign rfl) rfl rfl fun a_342 HE343 => ?_
    refine wpList_nil ?_
    clear a_314 HE315 a_316 HE317 HH295 K_318 hK319 HH322 HH325 HH326 a_320 HE321 a_328 HE329 a_330 HE331 a_332 HE333 a_334 HE335 a_336 HE337 a_338 HE339 a_340 HE341 hK324 K_323
    refine nrm ?_
    refine wp_seq ?_
    refine wp_seq ?_
    refine rg ?_
    refine pl_x HE343 HH327 (wt0 rfl) (x_move rfl) rfl rfl fun a_344 HE345 => ?_
    refine pl_x HE345 HH327 (wt0 rfl) (x_neq rfl rfl) rfl rfl fun a_346 HE347 => ?_
    refine pl_x HE347 HH327 (wt0 rfl) (x_move rfl) rfl rfl fun a_348 HE349 => ?_
    refine pl_x HE349 HH327 (wtT HE349 rfl rfl rfl (bne_f rfl)) (x_move rfl) rfl rfl fun a_350 HE351 => ?_
    refine pl_x HE351 HH327 (wtT HE351 rfl rfl rfl (bne_f rfl)) (x_neq rfl rfl) rfl rfl fun a_352 HE353 => ?_
    refine pl_x HE353 HH327 (wt0 rfl) (x_pickF rfl (bne_f rfl) rfl) rfl rfl fun a_354 HE355 => ?_
    refine pl_x HE355 HH327 (wt0 rfl) (x_move rfl) rfl rfl fun a_356 HE357 => ?_
    refine pl_x HE357 HH327 (wtT HE357 rfl rfl rfl (bne_f rfl)) (x_move rfl) rfl rfl fun a_358 HE359 => ?_
    refine pl_x HE359 HH327 (wtT HE359 rfl rfl rfl (bne_f rfl)) (x_not rfl) rfl rfl fun a_360 HE361 => ?_
    refine pl_x HE361 HH327 (wt0 rfl) (x_pickF rfl (bne_f rfl) rfl) rfl rfl fun a_362 HE363 => ?_
    refine pl_x HE363 HH327 (wt0 rfl) (x_move rfl) rfl rfl fun a_364 HE365 => ?_
    refine pl_x HE365 HH327 (wtT HE365 rfl rfl rfl rfl) (x_move rfl) rfl rfl fun a_366 HE367 => ?_
    refine pl_x HE367 HH327 (wtT HE367 rfl rfl rfl rfl) (x_move rfl) rfl rfl fun a_368 HE369 => ?_
    refine pl_x HE369 HH327 (wtT HE369 rfl rfl rfl rfl) (x_move rfl) rfl rfl fun a_370 HE371 => ?_
    refine pl_x HE371 HH327 (wtT HE371 rfl rfl rfl rfl) (x_mul rfl rfl (by exact ⟨by omega, by omega⟩)) rfl rfl fun a_372 HE373 => ?_
    refine pl fun K_374 hK375 => ?_
    refine st_lit (m := 1) (cs := [.int .i64 (((atB a0 0 6) * (atB a0 1 5)))]) (e := 2) HE373 HH327 (run_lit ts_25 HE373 (vs := [.int .i64 (((atB a0 0 6) * (atB a0 1 5)))]) rfl rfl (by simp [Value.cells]) rfl (by decide)) (wtT HE373 rfl rfl rfl rfl) rfl rfl fun q43 a_376 w' HE377 HH378 => hK375 _ _ ?_
    refine pl fun K_379 hK380 => ?_
    have HH381 := Held.vecFlat (E := eInt) (xs := [((atB a0 0 6) * (atB a0 1 5))]) (css := [[.int .i64 (((atB a0 0 6) * (atB a0 1 5)))]]) HH378 rfl (by unfold maxLen; simp) (fun i x hx => by match i with | 0 => exact ⟨_, rfl, fun _ => by simp at hx; subst hx; exact (oI (by exact ⟨by omega, by omega⟩))⟩ | i + 1 => simp at hx)
    refine st_call HE377 (wtT HE377 rfl rfl rfl rfl) rfl rfl rfl en_15 rfl rfl (kn_Nums _ _ ([(atB a0 0 6) * (atB a0 1 5)]) _ _ ([((atB a0 0 6) * (atB a0 1 5))] : List Int) _ (HH381.sl (i := 1) rfl) (HH381.vecSl (i := 0) rfl) (by rfl)) fun e w' hr => ?_
    obtain ⟨rfl, hbr44⟩ := hr
    have HH382 := HH381.on hbr44
    refine ⟨_, rfl, fun a_383 HE384 => hK380 _ _ ?_⟩
    refine pl_x HE384 HH382 (wtT HE384 rfl rfl rfl rfl) (x_not rfl) rfl rfl fun a_385 HE386 => ?_
    refine pl_x HE386 HH382 (wt0 rfl) (x_pickF rfl rfl rfl) rfl rfl fun a_387 HE388 => ?_
    refine pl_x HE388 HH382 (wt0 rfl) (x_move rfl) rfl rfl fun a_389 HE390 => ?_
    refine pl_x HE390 HH382 (wtT HE390 rfl rfl rfl rfl) (x_move rfl) rfl rfl fun a_391 HE392 => ?_
    refine pl fun K_393 hK394 => ?_
    refine st_lit (m := 1) (cs := [.int .i64 (1)]) (e := 2) HE392 HH382 (run_lit ts_25 HE392 (vs := [.int .i64 (1)]) rfl rfl (by simp [Value.cells]) rfl (by decide)) (wtT HE392 rfl rfl rfl rfl) rfl rfl fun q45 a_395 w' HE396 HH397 => hK394 _ _ ?_
    refine pl fun K_398 hK399 => ?_
    have HH400 := Held.vecFlat (E := eInt) (xs := [1]) (css := [[.int .i64 (1)]]) HH397 rfl (by unfold maxLen; simp) (fun i x hx => by match i with | 0 => exact ⟨_, rfl, fun _ => by simp at hx; subst hx; exact (oI (by exact ⟨by omega, by omega⟩))⟩ | i + 1 => simp at hx)
    refine st_call HE396 (wtT HE396 rfl rfl rfl rfl) rfl rfl rfl en_15 rfl rfl (kn_Nums _ _ ([1] : List Int) _ _ ([1] : List Int) _ (HH400.sl (i := 3) rfl) (HH400.vecSl (i := 0) rfl) (by rfl)) fun e w' hr => ?_
    obtain ⟨rfl, hbr46⟩ := hr
    have HH401 := HH400.on hbr46
    refine ⟨_, rfl, fun a_402 HE403 => hK399 _ _ ?_⟩
    refine pl_x HE403 HH401 (wtT HE403 rfl rfl rfl rfl) (x_not rfl) rfl rfl fun a_404 HE405 => ?_
    refine pl_x HE405 HH401 (wt0 rfl) (x_pickF rfl rfl rfl) rfl rfl fun a_406 HE407 => ?_
    refine wpList_nil ?_
    clear a_342 HE343 a_344 HE345 a_346 HE347 a_348 HE349 a_350 HE351 a_352 HE353 a_354 HE355 a_356 HE357 a_358 HE359 a_360 HE361 a_362 HE363 a_364 HE365 a_366 HE367 a_368 HE369 a_370 HE371 a_372 HE373 HH327 K_374 hK375 HH378 HH381 a_376 HE377 a_383 HE384 a_385 HE386 a_387 HE388 a_389 HE390 K_379 hK380 a_391 HE392 HH382 K_393 hK394 HH397 HH400 a_395 HE396 a_402 HE403 a_404 HE405 hK399 K_398
    refine nrm ?_
    refine cndF HE407 rfl rfl ?_
    refine wp_skip ?_
    refine nrm ?_
    refine wp_seq ?_
    refine rg ?_
    refine pl_x HE407 HH401 (wt0 rfl) (x_move rfl) rfl rfl fun a_408 HE409 => ?_
    refine pl fun K_410 hK411 => ?_
    refine st_lit (m := 1) (cs := [.int .i64 (2)]) (e := 2) HE409 HH401 (run_lit ts_25 HE409 (vs := [.int .i64 (2)]) rfl rfl (by simp [Value.cells]) rfl (by decide)) (wt0 rfl) rfl rfl fun q47 a_412 w' HE413 HH414 => hK411 _ _ ?_
    refine pl fun K_415 hK416 => ?_
    have HH417 := Held.vecFlat (E := eInt) (xs := [2]) (css := [[.int .i64 (2)]]) HH414 rfl (by unfold maxLen; simp) (fun i x hx => by match i with | 0 => exact ⟨_, rfl, fun _ => by simp at hx; subst hx; exact (oI (by exact ⟨by omega, by omega⟩))⟩ | i + 1 => simp at hx)
    refine st_call HE413 (wt0 rfl) rfl rfl rfl en_16 rfl rfl (kn_Seen _ _ (knownL 2) _ _ ([2] : List Int) 2 300 [1, 2, 3, 5] _ (HH417.sl (i := 13) rfl) (HH417.vecSl (i := 0) rfl) (by omega) (by exact know_seen)) fun e w' hr => ?_
    obtain ⟨Ar48_0, cr48_0, rfl, hor48_0, hbr48⟩ := hr
    obtain ⟨Sr48, HH418⟩ := HH417.newS hbr48 hor48_0
    refine ⟨_, rfl, fun a_419 HE420 => hK416 _ _ ?_⟩
    refine pl_x HE420 HH418 (wt0 rfl) (x_move rfl) rfl rfl fun a_421 HE422 => ?_
    refine pl_x HE422 HH418 (wt0 rfl) (x_extract rfl rfl) rfl rfl fun a_423 HE424 => ?_
    refine pl_x HE424 HH418 (wt0 rfl) (x_extract rfl rfl) rfl rfl fun a_425 HE426 => ?_
    refine pl_x HE426 HH418 (wt0 rfl) (x_assign rfl) rfl rfl fun a_427 HE428 => ?_
    refine pl_x HE428 HH418 (wt0 rfl) (x_assign rfl) rfl rfl fun a_429 HE430 => ?_
    refine wpList_nil ?_
    clear a_406 HE407 a_408 HE409 HH401 K_410 hK411 HH414 HH417 a_412 HE413 a_419 HE420 a_421 HE422 a_423 HE424 a_425 HE426 a_427 HE428 hK416 K_415
    refine nrm ?_
    refine wp_seq ?_
    refine rg ?_
    refine pl_x HE430 HH418 (wt0 rfl) (x_move rfl) rfl rfl fun a_431 HE432 => ?_
    refine pl_x HE432 HH418 (wt0 rfl) (x_eql rfl rfl) rfl rfl fun a_433 HE434 => ?_
    refine pl_x HE434 HH418 (wt0 rfl) (x_move rfl) rfl rfl fun a_435 HE436 => ?_
    refine pl_x HE436 HH418 (wtT HE436 rfl rfl rfl (beq_t rfl)) (x_move rfl) rfl rfl fun a_437 HE438 => ?_
    refine pl fun K_439 hK440 => ?_
    refine st_lit (m := 4) (cs := [.int .i64 (1), .int .i64 (2), .int .i64 (3), .int .i64 (5)]) (e := 2) HE438 HH418 (run_lit ts_25 HE438 (vs := [.int .i64 (1), .int .i64 (2), .int .i64 (3), .int .i64 (5)]) rfl rfl (by simp [Value.cells]) rfl (by decide)) (wtT HE438 rfl rfl rfl (beq_t rfl)) rfl rfl fun q49 a_441 w' HE442 HH443 => hK440 _ _ ?_
    refine pl fun K_444 hK445 => ?_
    have HH446 := Held.vecFlat (E := eInt) (xs := [1, 2, 3, 5]) (css := [[.int .i64 (1)], [.int .i64 (2)], [.int .i64 (3)], [.int .i64 (5)]]) HH443 rfl (by unfold maxLen; simp) (fun i x hx => by match i with | 0 => exact ⟨_, rfl, fun _ => by simp at hx; subst hx; exact (oI (by exact ⟨by omega, by omega⟩))⟩ | 1 => exact ⟨_, rfl, fun _ => by simp at hx; subst hx; exact (oI (by exact ⟨by omega, by omega⟩))⟩ | 2 => exact ⟨_, rfl, fun _ => by simp at hx; subst hx; exact (oI (by exact ⟨by omega, by omega⟩))⟩ | 3 => exact ⟨_, rfl, fun _ => by simp at hx; subst hx; exact (oI (by exact ⟨by omega, by omega⟩))⟩ | i + 4 => simp at hx)
    refine st_call HE442 (wtT HE442 rfl rfl rfl (beq_t rfl)) rfl rfl rfl en_15 rfl rfl (kn_Nums _ _ ([1, 2, 3, 5] : List Int) _ _ ([1, 2, 3, 5] : List Int) _ (HH446.sl (i := 1) rfl) (HH446.vecSl (i := 0) rfl) (by rfl)) fun e w' hr => ?_
    obtain ⟨rfl, hbr50⟩ := hr
    have HH447 := HH446.on hbr50
    refine ⟨_, rfl, fun a_448 HE449 => hK445 _ _ ?_⟩
    refine pl_x HE449 HH447 (wt0 rfl) (x_pickT rfl (beq_t rfl) rfl) rfl rfl fun a_450 HE451 => ?_
    refine pl_x HE451 HH447 (wt0 rfl) (x_assign rfl) rfl rfl fun a_452 HE453 => ?_
    refine wpList_nil ?_
    clear a_429 HE430 a_431 HE432 a_433 HE434 a_435 HE436 a_437 HE438 HH418 K_439 hK440 HH443 HH446 a_441 HE442 a_448 HE449 a_450 HE451 hK445 K_444
    refine nrm ?_
    refine wp_ret ?_
    refine ret1 HE453 rfl (rv_tmp rfl) ?_
    have hF : true = true := by
      rfl
    exact ⟨by first | (rw [hF] <;> rfl) | rfl | (rw [hF]; simp only [Ending.returned.injEq, Value.slice.injEq, true_and, and_true]; first | omega | (simp; done)) | (rw [hF]; simp; omega), HH447.below⟩

end Go.Proofs.YtcfdkckchbdafaaGreatDoor
