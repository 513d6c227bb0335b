/- What the proof of FnExactValidMarkov needs: contracts of the functions that it reaches, each once. -/
import Derived.Test.YtlnakbbngidogaaProg
import Derived.Test.YtlnakbbngidogaaQMem
import Derived.WalkKit
import Derived.WalkSpells
import Derived.Below
import Derived.LoopTactic
import Derived.Outline
import Derived.Deep.QuietTactic
import Derived.BigQuiet
import Derived.Deep.LoopGhost
import Derived.Handy
import Derived.Lib.Hide
import Derived.Shelf.Abstract
import Derived.StillTailTactics
import Derived.OwnWalk
import Derived.Maps.AppendAt
import Derived.RegionTactic
import Derived.Deep.RegionHeld3
namespace Go.Proofs.Ytlnakbbngidogaa
open Go.RowKit

abbrev tMarkovRule : Type := (List Int) × (List Int) × Bool

abbrev eMarkovRule : Enc tMarkovRule := (ePr (eSl eInt) (ePr (eSl eInt) eBool))

theorem shape_MarkovRule {w : World} {S : Nat → Prop} {es : List Value} {x : tMarkovRule} (h : eMarkovRule.R w S es x) : ∃ A0 c0 A1 c1, es = [.slice A0 x.1.length c0, .slice A1 x.2.1.length c1, .bool x.2.2] ∧ Sl eInt w S A0 c0 x.1 ∧ Sl eInt w S A1 c1 x.2.1 := by
  obtain ⟨_, _, rfl, ⟨A0, c0, rfl, h0⟩, ⟨_, _, rfl, ⟨A1, c1, rfl, h1⟩, rfl⟩⟩ := h
  exact ⟨A0, c0, A1, c1, rfl, h0, h1⟩

theorem any_hit {α : Type} {p : α → Bool} {xs : List α} {k : Nat} (hk : k < xs.length) (h : p xs[k] = true) : xs.any p = true :=
  List.any_eq_true.2 ⟨_, List.getElem_mem hk, h⟩

theorem any_step {α : Type} {p : α → Bool} {xs : List α} {k : Nat} (hk : k < xs.length) (h0 : (xs.take k).any p = false) (h : p xs[k] = false) : (xs.take (k + 1)).any p = false := by
  rw [List.take_succ_eq_append_getElem hk, List.any_append, h0]; simp [h]

/-- Equality of two lists, element by element. -/
def eqL {α : Type} (p : α → α → Bool) : List α → List α → Bool
  | [], [] => true
  | x :: xs, y :: ys => p x y && eqL p xs ys
  | _, _ => false

theorem eqL_refl {α : Type} {p : α → α → Bool} (hp : ∀ x, p x x = true) : ∀ xs : List α, eqL p xs xs = true
  | [] => rfl
  | x :: xs => by rw [eqL, hp, eqL_refl hp xs]; rfl

theorem eqL_len {α : Type} {p : α → α → Bool} : ∀ (xs ys : List α), xs.length ≠ ys.length → eqL p xs ys = false
  | [], [], h => absurd rfl h
  | [], _ :: _, _ => rfl
  | _ :: _, [], _ => rfl
  | x :: xs, y :: ys, h => by rw [eqL, eqL_len xs ys (by simpa using h)]; simp

theorem eqL_get {α : Type} {p : α → α → Bool} : ∀ (xs ys : List α) (k : Nat) (h1 : k < xs.length) (h2 : k < ys.length), p xs[k] ys[k] = false → eqL p xs ys = false
  | x :: xs, y :: ys, 0, _, _, h => by rw [eqL]; simp at h; rw [h]; rfl
  | x :: xs, y :: ys, k + 1, h1, h2, h => by rw [eqL, eqL_get xs ys k (by simpa using h1) (by simpa using h2) (by simpa using h)]; simp

theorem eqL_all {α : Type} {p : α → α → Bool} : ∀ (xs ys : List α), xs.length = ys.length → (∀ k (h1 : k < xs.length) (h2 : k < ys.length), p xs[k] ys[k] = true) → eqL p xs ys = true
  | [], [], _, _ => rfl
  | x :: xs, y :: ys, hl, h => by
    have e : p x y = true := h 0 (Nat.zero_lt_succ _) (Nat.zero_lt_succ _)
    have e' : eqL p xs ys = true := eqL_all xs ys (by simpa using hl) fun k h1 h2 => h (k + 1) (Nat.succ_lt_succ h1) (Nat.succ_lt_succ h2)
    rw [eqL, e, e']; rfl
  | [], _ :: _, hl, _ => by simp at hl
  | _ :: _, [], hl, _ => by simp at hl

theorem ret_bool {a b : Bool} (h : a = b) : Ending.returned (.bool a) = .returned (.bool b) := by rw [h]

def withinB (n lo hi : Int) : Bool := decide (lo ≤ n) && decide (n ≤ hi)

theorem withinB_true {n lo hi : Int} : withinB n lo hi = true ↔ lo ≤ n ∧ n ≤ hi := by
  unfold withinB; simp

theorem impl_within (n lo hi : Int) (w : World) :
    Calls Try.prog 72 #[.int .i64 n, .int .i64 lo, .int .i64 hi] w fun e w' => e = .returned (.bool (withinB n lo hi)) ∧ w = w' := by
  unfold withinB
  by_cases h1 : lo ≤ n
  · go_enter Try.func72, Try.ntmps72
    go_wp2
    go_ret
    exact ⟨by first | (simp; done) | simp [h1], rfl⟩
  · have h2 : decide (lo ≤ n) = false := by simpa using h1
    go_enter Try.func72, Try.ntmps72
    go_wp2
    go_ret
    exact ⟨by first | (simp; done) | simp [h2], rfl⟩

theorem spec_l00In (n lo hi : Int) (w : World) :
    Calls Try.prog 119 #[.int .i64 n, .int .i64 lo, .int .i64 hi] w fun e w' => e = .returned (.bool (withinB n lo hi)) ∧ w = w' := by
  unfold withinB
  by_cases h1 : lo ≤ n
  · go_enter Try.func119, Try.ntmps119
    go_wp2
    go_ret
    exact ⟨by first | (simp; done) | simp [h1], rfl⟩
  · have h2 : decide (lo ≤ n) = false := by simpa using h1
    go_enter Try.func119, Try.ntmps119
    go_wp2
    go_ret
    exact ⟨by first | (simp; done) | simp [h2], rfl⟩

theorem impl_size_MarkovRule (a : Option Addr) (n c : Nat) (w : World) :
    Calls Try.prog 111 #[.slice a n c] w fun e w' => e = .returned (.int .i64 n) ∧ w = w' := by
  go_enter Try.func111, Try.ntmps111
  go_wp2
  go_ret
  exact ⟨rfl, rfl⟩

set_option maxHeartbeats 400000 in
theorem IndexFunc_Int64S (p : (List Int) → Bool) (g : Nat) (lb : Array Value) (A : Option Addr) (c : Nat) (xs : List (List Int)) (w : World) (h : Sl (eSl eInt) w (Old w) A c xs)
    (eg : ∀ args w, (callFunc g args).run Try.prog w = .ok (.enter g args) w) (hp : ∀ W x es, x ∈ xs → Below w.heap.size w W → (eSl eInt).R W (Old W) es x → Calls Try.prog g (#[es[0]!] ++ lb) W fun e w' => e = .returned (.bool (p x)) ∧ Below W.heap.size W w') :
    Calls Try.prog 155 #[.slice A xs.length c, .func (.func g) #[] lb] w fun e w' => (∃ r : Int, e = .returned (.int .i64 r) ∧ decide (0 ≤ r) = xs.any p) ∧ Below w.heap.size w w' := by
  have hlen := h.len
  have H := Lib.hid h; clear h
  have HP := Lib.hid hp; clear hp
  go_enter Try.func155, Try.ntmps155
  go_wp2
  go_loopg [5, 8] xs.length (fun gg _ s8 wr => ∃ k : Nat, k ≤ xs.length ∧ xs.length - k ≤ gg ∧ s8 = .int .i64 k ∧ Hid (Below w.heap.size w wr) ∧ Hid ((xs.take k).any p = false))
  case atStart => exact ⟨0, Nat.zero_le _, by omega, rfl, Below.refl _ w, rfl⟩
  case round =>
    obtain ⟨k, hk, hg, rfl, BW, HN⟩ := hrel
    by_cases hlt : k < xs.length
    · have hltz : (k : Int) < (xs.length : Int) := by omega
      obtain ⟨b, off, es, rfl, hb, hR, hc⟩ := H.out.at1 rfl hlt
      have hcall := HP.out wr xs[k] _ (List.getElem_mem hlt) BW.out ((eSl eInt).on hR BW.out)
      obtain ⟨Aq, cq, rfl, gq⟩ := hR
      have d0 : wr.cell? ⟨b, off + k, none⟩ = some (.slice Aq xs[k].length cq) := (below_olds BW.out _ hb).trans (hc _ rfl)
      clear hc gq
      try clear hR
      have HQ1 : Hid (p xs[k] = true → xs.any p = true) := any_hit hlt
      have HQ0 : Hid (p xs[k] = false → (xs.take (k + 1)).any p = false) := any_step hlt HN.out
      generalize xs[k] = y at d0 hcall HQ1 HQ0
      cases hq : p y with
      | true =>
        rw [hq] at hcall
        have HQ := Lib.hid (HQ1.out hq); clear hq HQ1 HQ0
        go_wp2_with (go_at_fn g; refine hcall.mono ?_; rintro e w' ⟨rfl, hb'⟩)
        go_ret
        exact ⟨⟨k, rfl, by rw [HQ.out]; simp⟩, below_trans BW.out hb'⟩
      | false =>
        rw [hq] at hcall
        have HQ := Lib.hid (HQ0.out hq); clear hq HQ1 HQ0
        go_wp2_with (go_at_fn g; refine hcall.mono ?_; rintro e w' ⟨rfl, hb'⟩)
        go_roundg (xs.length - (k + 1))
        case measure => omega
        case rel => exact ⟨k + 1, by omega, by omega, by go_num, below_trans BW.out hb', HQ.out⟩
    · have hltz : ¬ (k : Int) < (xs.length : Int) := by omega
      obtain rfl : k = xs.length := by omega
      go_wp2
      go_ret
      refine ⟨⟨-1, rfl, ?_⟩, BW.out⟩
      have := HN.out
      rw [List.take_length] at this
      rw [this]; rfl

theorem ContainsFunc_Int64S (p : (List Int) → Bool) (g : Nat) (lb : Array Value) (A : Option Addr) (c : Nat) (xs : List (List Int)) (w : World) (h : Sl (eSl eInt) w (Old w) A c xs)
    (eg : ∀ args w, (callFunc g args).run Try.prog w = .ok (.enter g args) w) (hp : ∀ W x es, x ∈ xs → Below w.heap.size w W → (eSl eInt).R W (Old W) es x → Calls Try.prog g (#[es[0]!] ++ lb) W fun e w' => e = .returned (.bool (p x)) ∧ Below W.heap.size W w') :
    Calls Try.prog 139 #[.slice A xs.length c, .func (.func g) #[] lb] w fun e w' => e = .returned (.bool (xs.any p)) ∧ Below w.heap.size w w' := by
  have hI := Lib.hid (IndexFunc_Int64S p g lb A c xs w h eg hp); clear h hp eg
  go_enter Try.func139, Try.ntmps139
  go_wp2_with (go_at_call 155; refine hI.out.mono ?_; rintro e w' ⟨⟨r, rfl, hr⟩, hb⟩; have HR := Lib.hid hr; clear hr)
  go_ret
  exact ⟨by rw [← HR.out]; rfl, hb⟩

set_option maxHeartbeats 400000 in
theorem IndexFunc_MarkovRule (p : tMarkovRule → Bool) (g : Nat) (lb : Array Value) (A : Option Addr) (c : Nat) (xs : List tMarkovRule) (w : World) (h : Sl eMarkovRule w (Old w) A c xs)
    (eg : ∀ args w, (callFunc g args).run Try.prog w = .ok (.enter g args) w) (hp : ∀ W x es, x ∈ xs → Below w.heap.size w W → eMarkovRule.R W (Old W) es x → Calls Try.prog g (#[.agg es.toArray] ++ lb) W fun e w' => e = .returned (.bool (p x)) ∧ Below W.heap.size W w') :
    Calls Try.prog 145 #[.slice A xs.length c, .func (.func g) #[] lb] w fun e w' => (∃ r : Int, e = .returned (.int .i64 r) ∧ decide (0 ≤ r) = xs.any p) ∧ Below w.heap.size w w' := by
  have hlen := h.len
  have H := Lib.hid h; clear h
  have HP := Lib.hid hp; clear hp
  go_enter Try.func145, Try.ntmps145
  go_wp2
  go_loopg [5, 8] xs.length (fun gg _ s8 wr => ∃ k : Nat, k ≤ xs.length ∧ xs.length - k ≤ gg ∧ s8 = .int .i64 k ∧ Hid (Below w.heap.size w wr) ∧ Hid ((xs.take k).any p = false))
  case atStart => exact ⟨0, Nat.zero_le _, by omega, rfl, Below.refl _ w, rfl⟩
  case round =>
    obtain ⟨k, hk, hg, rfl, BW, HN⟩ := hrel
    by_cases hlt : k < xs.length
    · have hltz : (k : Int) < (xs.length : Int) := by omega
      obtain ⟨b, off, es, rfl, hb, hR, hc⟩ := H.out.at hlt
      have hcall := HP.out wr xs[k] _ (List.getElem_mem hlt) BW.out (eMarkovRule.on hR BW.out)
      obtain ⟨Aq0, cq0, Aq1, cq1, rfl, gq0, gq1⟩ := shape_MarkovRule hR
      have d0 : wr.cell? ⟨b, off + k * 3, none⟩ = some (.slice Aq0 xs[k].1.length cq0) := (below_olds BW.out _ hb).trans (hc 0 _ rfl)
      have d1 : wr.cell? ⟨b, off + k * 3 + 1, none⟩ = some (.slice Aq1 xs[k].2.1.length cq1) := (below_olds BW.out _ hb).trans (hc 1 _ rfl)
      have d2 : wr.cell? ⟨b, off + k * 3 + 2, none⟩ = some (.bool xs[k].2.2) := (below_olds BW.out _ hb).trans (hc 2 _ rfl)
      clear hc gq0 gq1
      try clear hR
      have HQ1 : Hid (p xs[k] = true → xs.any p = true) := any_hit hlt
      have HQ0 : Hid (p xs[k] = false → (xs.take (k + 1)).any p = false) := any_step hlt HN.out
      generalize xs[k] = y at d0 d1 d2 hcall HQ1 HQ0
      cases hq : p y with
      | true =>
        rw [hq] at hcall
        have HQ := Lib.hid (HQ1.out hq); clear hq HQ1 HQ0
        go_wp2_with (go_at_fn g; refine hcall.mono ?_; rintro e w' ⟨rfl, hb'⟩)
        go_ret
        exact ⟨⟨k, rfl, by rw [HQ.out]; simp⟩, below_trans BW.out hb'⟩
      | false =>
        rw [hq] at hcall
        have HQ := Lib.hid (HQ0.out hq); clear hq HQ1 HQ0
        go_wp2_with (go_at_fn g; refine hcall.mono ?_; rintro e w' ⟨rfl, hb'⟩)
        go_roundg (xs.length - (k + 1))
        case measure => omega
        case rel => exact ⟨k + 1, by omega, by omega, by go_num, below_trans BW.out hb', HQ.out⟩
    · have hltz : ¬ (k : Int) < (xs.length : Int) := by omega
      obtain rfl : k = xs.length := by omega
      go_wp2
      go_ret
      refine ⟨⟨-1, rfl, ?_⟩, BW.out⟩
      have := HN.out
      rw [List.take_length] at this
      rw [this]; rfl

theorem ContainsFunc_MarkovRule (p : tMarkovRule → Bool) (g : Nat) (lb : Array Value) (A : Option Addr) (c : Nat) (xs : List tMarkovRule) (w : World) (h : Sl eMarkovRule w (Old w) A c xs)
    (eg : ∀ args w, (callFunc g args).run Try.prog w = .ok (.enter g args) w) (hp : ∀ W x es, x ∈ xs → Below w.heap.size w W → eMarkovRule.R W (Old W) es x → Calls Try.prog g (#[.agg es.toArray] ++ lb) W fun e w' => e = .returned (.bool (p x)) ∧ Below W.heap.size W w') :
    Calls Try.prog 112 #[.slice A xs.length c, .func (.func g) #[] lb] w fun e w' => e = .returned (.bool (xs.any p)) ∧ Below w.heap.size w w' := by
  have hI := Lib.hid (IndexFunc_MarkovRule p g lb A c xs w h eg hp); clear h hp eg
  go_enter Try.func112, Try.ntmps112
  go_wp2_with (go_at_call 145; refine hI.out.mono ?_; rintro e w' ⟨⟨r, rfl, hr⟩, hb⟩; have HR := Lib.hid hr; clear hr)
  go_ret
  exact ⟨by rw [← HR.out]; rfl, hb⟩

def costL {α : Type} (f : α → Nat) (xs : List α) : Nat := xs.length + (xs.map f).sum

theorem costL_take {α : Type} (f : α → Nat) (xs : List α) (k : Nat) (h : k < xs.length) : ((xs.take (k + 1)).map f).sum = ((xs.take k).map f).sum + f xs[k] := by
  rw [List.take_succ_eq_append_getElem h, List.map_append, List.sum_append]; simp only [List.map_cons, List.map_nil, List.sum_cons, List.sum_nil, Nat.add_zero]

theorem cost_le {α : Type} (f : α → Nat) (xs : List α) (k : Nat) : ((xs.take k).map f).sum ≤ (xs.map f).sum := by
  have h : (xs.map f).sum = ((xs.take k).map f).sum + ((xs.drop k).map f).sum := by
    rw [← List.sum_append, ← List.map_append, List.take_append_drop]
  omega

/-- What the size functions of the laws answer. -/
def left (l : Int) (n : Nat) : Int := if l - n < 0 then -1 else l - n

theorem left_neg {l : Int} {n : Nat} (h : l - n < 0) : left l n = -1 := if_pos h

theorem left_pos {l : Int} {n : Nat} (h : ¬ l - n < 0) : left l n = l - n := if_neg h

def cost_L (xs : List Int) : Nat := xs.length

def cost_MarkovRule (x : tMarkovRule) : Nat := cost_L x.1 + cost_L x.2.1

def cost_SMarkovRule (xs : List tMarkovRule) : Nat := costL cost_MarkovRule xs

theorem sz_Int64S (A : Option Addr) (c : Nat) (xs : List Int) (l : Int) (w : World) (h : Sl eInt w (Old w) A c xs) (h0 : 0 ≤ l) (h1 : l ≤ 1048576) :
    Calls Try.prog 115 #[.slice A xs.length c, .int .i64 l] w fun e w' => e = .returned (.int .i64 (left l (cost_L xs))) ∧ Below w.heap.size w w' := by
  have hlen := h.len
  clear h
  unfold cost_L
  by_cases hl : l - xs.length < 0
  · rw [left_neg hl]
    go_enter Try.func115, Try.ntmps115
    go_wp2
    go_ret
    exact ⟨rfl, Below.refl _ _⟩
  · rw [left_pos hl]
    go_enter Try.func115, Try.ntmps115
    go_wp2
    go_ret
    exact ⟨rfl, Below.refl _ _⟩

set_option maxHeartbeats 1000000 in
theorem sz_MarkovRule (es : List Value) (x : tMarkovRule) (l : Int) (w : World) (h : eMarkovRule.R w (Old w) es x) (h0 : 0 ≤ l) (h1 : l ≤ 1048576) :
    Calls Try.prog 108 #[.agg es.toArray, .int .i64 l] w fun e w' => e = .returned (.int .i64 (left l (cost_MarkovRule x))) ∧ Below w.heap.size w w' := by
  obtain ⟨A0, c0, A1, c1, rfl, g0, g1⟩ := shape_MarkovRule h
  have HT : Hid (cost_MarkovRule x = cost_L x.1 + cost_L x.2.1) := rfl
  have HB0 := Lib.hid ((Below.refl w.heap.size w).alloc (Nat.le_refl _) (.cells #[.slice A0 x.1.length c0, .slice A1 x.2.1.length c1, .bool x.2.2] 140))
  have K0 := Lib.hid (g0.on HB0.out); clear g0
  have K1 := Lib.hid (g1.on HB0.out); clear g1
  by_cases t0 : l - (cost_L x.1 : Nat) < 0
  · rw [left_neg (by rw [HT.out]; omega)]
    go_enter Try.func108, Try.ntmps108
    go_wp2_with fail
    refine (sz_Int64S _ _ x.1 _ _ K0.out (by omega) (by omega)).mono ?_
    rintro e w1 ⟨rfl, hb⟩
    rw [left_neg (by omega)]
    have HB1 := Lib.hid hb
    clear hb
    obtain ⟨hc, hf⟩ := bcell HB1.out
    go_wp2
    go_ret
    exact ⟨rfl, HB0.out.trans (HB1.out.mono HB0.out.size)⟩
  by_cases t1 : l - (cost_L x.1 : Nat) - (cost_L x.2.1 : Nat) < 0
  · rw [left_neg (by rw [HT.out]; omega)]
    go_enter Try.func108, Try.ntmps108
    go_wp2_with fail
    refine (sz_Int64S _ _ x.1 _ _ K0.out (by omega) (by omega)).mono ?_
    rintro e w1 ⟨rfl, hb⟩
    rw [left_pos (by omega)]
    have HB1 := Lib.hid hb
    clear hb
    obtain ⟨hc, hf⟩ := bcell HB1.out
    go_wp2_with fail
    refine (sz_Int64S _ _ x.2.1 _ _ (K1.out.on HB1.out) (by omega) (by omega)).mono ?_
    rintro e w2 ⟨rfl, hb⟩
    rw [left_neg (by omega)]
    have HB2 := Lib.hid (below_trans HB1.out hb)
    clear hb
    obtain ⟨hc, hf⟩ := bcell HB2.out
    go_wp2
    go_ret
    exact ⟨rfl, HB0.out.trans (HB2.out.mono HB0.out.size)⟩
  rw [left_pos (by rw [HT.out]; omega), show l - ((cost_MarkovRule x : Nat) : Int) = l - (cost_L x.1 : Nat) - (cost_L x.2.1 : Nat) from by rw [HT.out]; first | done | omega]
  go_enter Try.func108, Try.ntmps108
  go_wp2_with fail
  refine (sz_Int64S _ _ x.1 _ _ K0.out (by omega) (by omega)).mono ?_
  rintro e w1 ⟨rfl, hb⟩
  rw [left_pos (by omega)]
  have HB1 := Lib.hid hb
  clear hb
  obtain ⟨hc, hf⟩ := bcell HB1.out
  go_wp2_with fail
  refine (sz_Int64S _ _ x.2.1 _ _ (K1.out.on HB1.out) (by omega) (by omega)).mono ?_
  rintro e w2 ⟨rfl, hb⟩
  rw [left_pos (by omega)]
  have HB2 := Lib.hid (below_trans HB1.out hb)
  clear hb
  obtain ⟨hc, hf⟩ := bcell HB2.out
  go_wp2
  go_ret
  exact ⟨rfl, HB0.out.trans (HB2.out.mono HB0.out.size)⟩

set_option maxHeartbeats 1000000 in
theorem sz_MarkovRuleS (A : Option Addr) (c : Nat) (xs : List tMarkovRule) (l : Int) (w : World) (h : Sl eMarkovRule w (Old w) A c xs) (h0 : 0 ≤ l) (h1 : l ≤ 1048576) :
    Calls Try.prog 46 #[.slice A xs.length c, .int .i64 l] w fun e w' => e = .returned (.int .i64 (left l (cost_SMarkovRule xs))) ∧ Below w.heap.size w w' := by
  have hlen := h.len
  have H := Lib.hid h; clear h
  have HC : Hid (cost_SMarkovRule xs = xs.length + (xs.map cost_MarkovRule).sum) := rfl
  by_cases hl : l - xs.length < 0
  · rw [left_neg (by rw [HC.out]; omega)]
    go_enter Try.func46, Try.ntmps46
    go_wp2
    go_ret
    exact ⟨rfl, Below.refl _ _⟩
  · go_enter Try.func46, Try.ntmps46
    go_wp2
    go_loopw [1, 5] (fun s1 s5 wr => ∃ (k : Nat) (m : Int), k ≤ xs.length ∧ s5 = .int .i64 k ∧ s1 = .int .i64 m ∧ 0 ≤ m ∧ m ≤ 1048576 ∧ Hid (m = l - xs.length - ((xs.take k).map cost_MarkovRule).sum) ∧ Hid (Below w.heap.size w wr)) (fun _ s5 _ => xs.length - (intOf s5).toNat)
    case atStart => exact ⟨0, _, Nat.zero_le _, rfl, rfl, by omega, by omega, by show _ = _; simp, Below.refl _ w⟩
    case round =>
      obtain ⟨k, m, hk, rfl, rfl, hm0, hm1, HM, BW⟩ := hrel
      by_cases hlt : k < xs.length
      · have hltz : (k : Int) < (xs.length : Int) := by omega
        obtain ⟨b, off, es, rfl, hb, hR, hc⟩ := H.out.at hlt
        have HS := Lib.hid (costL_take cost_MarkovRule xs k hlt)
        have HLE := Lib.hid (cost_le cost_MarkovRule xs (k + 1))
        have HC2 : Hid (∀ l, 0 ≤ l → l ≤ 1048576 → Calls Try.prog 108 #[.agg es.toArray, .int .i64 l] wr _) := fun l h0 h1 => sz_MarkovRule es xs[k] l wr (eMarkovRule.on hR BW.out) h0 h1
        obtain ⟨Aq0, cq0, Aq1, cq1, rfl, gq0, gq1⟩ := shape_MarkovRule hR
        have d0 : wr.cell? ⟨b, off + k * 3, none⟩ = some (.slice Aq0 xs[k].1.length cq0) := (below_olds BW.out _ hb).trans (hc 0 _ rfl)
        have d1 : wr.cell? ⟨b, off + k * 3 + 1, none⟩ = some (.slice Aq1 xs[k].2.1.length cq1) := (below_olds BW.out _ hb).trans (hc 1 _ rfl)
        have d2 : wr.cell? ⟨b, off + k * 3 + 2, none⟩ = some (.bool xs[k].2.2) := (below_olds BW.out _ hb).trans (hc 2 _ rfl)
        clear hc gq0 gq1
        try clear hR
        generalize xs[k] = y at d0 d1 d2 HC2 HS
        by_cases hz : m - cost_MarkovRule y < 0
        · go_wp2_with fail
          refine (HC2.out m hm0 hm1).mono ?_
          rintro e w2 ⟨rfl, hb2⟩
          rw [left_neg (by omega)]
          go_wp2
          go_ret
          exact ⟨by rw [left_neg (by rw [HC.out]; have := HM.out; have := HS.out; have := HLE.out; omega)]; rfl, below_trans BW.out hb2⟩
        · have hz1 : 0 ≤ m - cost_MarkovRule y := by omega
          go_wp2_with fail
          refine (HC2.out m hm0 hm1).mono ?_
          rintro e w2 ⟨rfl, hb2⟩
          rw [left_pos (by omega)]
          go_wp2
          go_roundw
          case rel => exact ⟨k + 1, m - cost_MarkovRule y, by omega, by go_num, rfl, by omega, by omega, by show _ = _; have := HM.out; have := HS.out; omega, below_trans BW.out hb2⟩
          case measure => simp [intOf]; omega
      · have hltz : ¬ (k : Int) < (xs.length : Int) := by omega
        obtain rfl : k = xs.length := by omega
        go_wp2
        go_ret
        have h2 := HM.out
        rw [List.take_length] at h2
        exact ⟨by rw [left_pos (by rw [HC.out]; omega), HC.out, show l - ((xs.length + (xs.map cost_MarkovRule).sum : Nat) : Int) = m from by omega]; rfl, BW.out⟩

def eq_i (x y : Int) : Bool := x == y

def eq_b (x y : Bool) : Bool := x == y

def eq_L (x y : List Int) : Bool := eqL eq_i x y

theorem eq_i_refl (x : Int) : eq_i x x = true := by simp [eq_i]

theorem eq_b_refl (x : Bool) : eq_b x x = true := by simp [eq_b]

theorem eq_L_refl (x : List Int) : eq_L x x = true := eqL_refl eq_i_refl x

def eq_MarkovRule (x y : tMarkovRule) : Bool := eq_L x.1 y.1 && eq_L x.2.1 y.2.1 && eq_b x.2.2 y.2.2

theorem eq_MarkovRule_refl (x : tMarkovRule) : eq_MarkovRule x x = true := by unfold eq_MarkovRule; simp [eq_L_refl, eq_b_refl]

def eq_SMarkovRule (x y : List tMarkovRule) : Bool := eqL eq_MarkovRule x y

theorem eq_SMarkovRule_refl (x : List tMarkovRule) : eq_SMarkovRule x x = true := eqL_refl eq_MarkovRule_refl x

set_option maxRecDepth 100000 in
set_option maxHeartbeats 1000000 in
theorem eq_L_c (A A' : Option Addr) (c c' : Nat) (xs ys : List Int) (w : World) (h : Sl eInt w (Old w) A c xs) (h' : Sl eInt w (Old w) A' c' ys) :
    Calls Try.prog 79 #[.slice A xs.length c, .slice A' ys.length c'] w fun e w' => e = .returned (.bool (eq_L xs ys)) ∧ Below w.heap.size w w' := by
  have hlen := h.len
  have hlen' := h'.len
  unfold eq_L
  by_cases hne : xs.length = ys.length
  · have hne' : ((xs.length : Int) != (ys.length : Int)) = false := by simp [hne]
    have HE := Lib.hid hne; clear hne
    have H := Lib.hid h; clear h
    have H' := Lib.hid h'; clear h'
    go_enter Try.func79, Try.ntmps79
    go_wp2
    clear hne'
    go_loopw [5] (fun s5 wr => ∃ k : Nat, k ≤ xs.length ∧ s5 = .int .i64 k ∧ Hid (Below w.heap.size w wr) ∧ Hid (∀ j (h1 : j < xs.length) (h2 : j < ys.length), j < k → eq_i xs[j] ys[j] = true)) (fun s5 _ => xs.length - (intOf s5).toNat)
    case atStart => exact ⟨0, Nat.zero_le _, rfl, Below.refl _ _, fun j _ _ h => absurd h (Nat.not_lt_zero _)⟩
    case round =>
      obtain ⟨k, hk, rfl, HL, HN⟩ := hrel
      by_cases hlt : k < xs.length
      · have hltz : (k : Int) < (xs.length : Int) := by omega
        have hlt' : k < ys.length := by have := HE.out; omega
        have hltz' : (k : Int) < (ys.length : Int) := by omega
        obtain ⟨bp, offp, esp, rfl, hbp, hR, hc⟩ := H.out.at1 rfl hlt
        obtain ⟨rfl, gp⟩ := hR
        have dp0 : wr.cell? ⟨bp, offp + k, none⟩ = some (.int .i64 xs[k]) := (below_olds HL.out _ hbp).trans (hc _ rfl)
        clear hc gp
        try clear hR
        obtain ⟨bq, offq, esq, rfl, hbq, hR, hc⟩ := H'.out.at1 rfl hlt'
        obtain ⟨rfl, gq⟩ := hR
        have dq0 : wr.cell? ⟨bq, offq + k, none⟩ = some (.int .i64 ys[k]) := (below_olds HL.out _ hbq).trans (hc _ rfl)
        clear hc gq
        try clear hR
        have HQ0 : Hid (eq_i xs[k] ys[k] = false → eqL eq_i xs ys = false) := eqL_get xs ys k hlt hlt'
        have HQ1 : Hid (eq_i xs[k] ys[k] = true → ∀ j (h1 : j < xs.length) (h2 : j < ys.length), j < k + 1 → eq_i xs[j] ys[j] = true) := fun e j h1 h2 hj => by
          by_cases ej : j = k
          · subst ej; exact e
          · exact HN.out j h1 h2 (by omega)
        generalize xs[k] = x at dp0 HQ0 HQ1
        generalize ys[k] = y at dq0 HQ0 HQ1
        cases hq : eq_i x y
        · have hq' : (x != y) = true := by simp [eq_i] at hq; simp [hq]
          go_wp2_with fail
          go_quiet (fail)
          go_wp2
          go_ret
          exact ⟨by rw [HQ0.out hq]; rfl, below_drewN HL.out _⟩
        · have hq' : (x != y) = false := by simp [eq_i] at hq; simp [hq]
          go_wp2_with fail
          go_quiet (fail)
          go_wp2
          go_roundw
          case rel => exact ⟨k + 1, by omega, by go_num, below_drewN HL.out _, HQ1.out hq⟩
          case measure => simp [intOf]; omega
      · have hltz : ¬ (k : Int) < (xs.length : Int) := by omega
        obtain rfl : k = xs.length := by omega
        go_wp2
        go_ret
        exact ⟨by rw [eqL_all xs ys HE.out fun j h1 h2 => HN.out j h1 h2 h1]; rfl, HL.out⟩
  · have hne' : ((xs.length : Int) != (ys.length : Int)) = true := by simp; omega
    rw [eqL_len xs ys hne]
    clear h h' hne
    go_enter Try.func79, Try.ntmps79
    go_wp2
    go_ret
    exact ⟨rfl, Below.refl _ _⟩

set_option maxHeartbeats 1000000 in
theorem eq_MarkovRule_c (es es' : List Value) (x y : tMarkovRule) (w : World) (h : eMarkovRule.R w (Old w) es x) (h' : eMarkovRule.R w (Old w) es' y) :
    Calls Try.prog 114 #[.agg es.toArray, .agg es'.toArray] w fun e w' => e = .returned (.bool (eq_MarkovRule x y)) ∧ Below w.heap.size w w' := by
  obtain ⟨Ax0, cx0, Ax1, cx1, rfl, gx0, gx1⟩ := shape_MarkovRule h
  obtain ⟨Ay0, cy0, Ay1, cy1, rfl, gy0, gy1⟩ := shape_MarkovRule h'
  have HB0 := Lib.hid (((Below.refl w.heap.size w).alloc (Nat.le_refl _) (.cells #[.slice Ax0 x.1.length cx0, .slice Ax1 x.2.1.length cx1, .bool x.2.2] 141)).alloc (by simp) (.cells #[.slice Ay0 y.1.length cy0, .slice Ay1 y.2.1.length cy1, .bool y.2.2] 141))
  have HX0 := Lib.hid (gx0.on HB0.out); clear gx0
  have HY0 := Lib.hid (gy0.on HB0.out); clear gy0
  have HX1 := Lib.hid (gx1.on HB0.out); clear gx1
  have HY1 := Lib.hid (gy1.on HB0.out); clear gy1
  cases t0 : eq_L x.1 y.1
  · rw [show eq_MarkovRule x y = false from by unfold eq_MarkovRule; simp [t0]]
    go_enter Try.func114, Try.ntmps114
    go_wp2_with fail
    refine (eq_L_c _ _ _ _ x.1 y.1 _ HX0.out HY0.out).mono ?_
    rintro e w1 ⟨rfl, hb⟩
    rw [t0]
    have HB1 := Lib.hid hb
    clear hb
    obtain ⟨hc, hf⟩ := bcell HB1.out
    go_wp2
    all_goals first | (go_ret; exact ⟨rfl, below_trans HB0.out HB1.out⟩) | (exfalso; clear HB0 HB1; simp_all [eq_b, bne])
  cases t1 : eq_L x.2.1 y.2.1
  · rw [show eq_MarkovRule x y = false from by unfold eq_MarkovRule; simp [t0, t1]]
    go_enter Try.func114, Try.ntmps114
    go_wp2_with fail
    refine (eq_L_c _ _ _ _ x.1 y.1 _ HX0.out HY0.out).mono ?_
    rintro e w1 ⟨rfl, hb⟩
    rw [t0]
    have HB1 := Lib.hid hb
    clear hb
    obtain ⟨hc, hf⟩ := bcell HB1.out
    go_wp2_with fail
    refine (eq_L_c _ _ _ _ x.2.1 y.2.1 _ (HX1.out.on HB1.out) (HY1.out.on HB1.out)).mono ?_
    rintro e w2 ⟨rfl, hb⟩
    rw [t1]
    have HB2 := Lib.hid (below_trans HB1.out hb)
    clear hb
    obtain ⟨hc, hf⟩ := bcell HB2.out
    go_wp2
    all_goals first | (go_ret; exact ⟨rfl, below_trans HB0.out HB2.out⟩) | (exfalso; clear HB0 HB2; simp_all [eq_b, bne])
  cases t2 : eq_b x.2.2 y.2.2
  · rw [show eq_MarkovRule x y = false from by unfold eq_MarkovRule; simp [t0, t1, t2]]
    have t2' : (x.2.2 != y.2.2) = true := by simp only [eq_b] at t2; simp [bne, t2]
    go_enter Try.func114, Try.ntmps114
    go_wp2_with fail
    refine (eq_L_c _ _ _ _ x.1 y.1 _ HX0.out HY0.out).mono ?_
    rintro e w1 ⟨rfl, hb⟩
    rw [t0]
    have HB1 := Lib.hid hb
    clear hb
    obtain ⟨hc, hf⟩ := bcell HB1.out
    go_wp2_with fail
    refine (eq_L_c _ _ _ _ x.2.1 y.2.1 _ (HX1.out.on HB1.out) (HY1.out.on HB1.out)).mono ?_
    rintro e w2 ⟨rfl, hb⟩
    rw [t1]
    have HB2 := Lib.hid (below_trans HB1.out hb)
    clear hb
    obtain ⟨hc, hf⟩ := bcell HB2.out
    go_wp2
    all_goals first | (go_ret; exact ⟨rfl, below_trans HB0.out HB2.out⟩) | (exfalso; clear HB0 HB2; simp_all [eq_b, bne])
  have t2' : (x.2.2 != y.2.2) = false := by simp only [eq_b] at t2; simp [bne, t2]
  rw [show eq_MarkovRule x y = true from by unfold eq_MarkovRule; simp [t0, t1, t2]]
  go_enter Try.func114, Try.ntmps114
  go_wp2_with fail
  refine (eq_L_c _ _ _ _ x.1 y.1 _ HX0.out HY0.out).mono ?_
  rintro e w1 ⟨rfl, hb⟩
  rw [t0]
  have HB1 := Lib.hid hb
  clear hb
  obtain ⟨hc, hf⟩ := bcell HB1.out
  go_wp2_with fail
  refine (eq_L_c _ _ _ _ x.2.1 y.2.1 _ (HX1.out.on HB1.out) (HY1.out.on HB1.out)).mono ?_
  rintro e w2 ⟨rfl, hb⟩
  rw [t1]
  have HB2 := Lib.hid (below_trans HB1.out hb)
  clear hb
  obtain ⟨hc, hf⟩ := bcell HB2.out
  go_wp2
  all_goals first | (go_ret; exact ⟨rfl, below_trans HB0.out HB2.out⟩) | (exfalso; clear HB0 HB2; simp_all [eq_b, bne])

set_option maxRecDepth 100000 in
set_option maxHeartbeats 1000000 in
theorem eq_SMarkovRule_c (A A' : Option Addr) (c c' : Nat) (xs ys : List tMarkovRule) (w : World) (h : Sl eMarkovRule w (Old w) A c xs) (h' : Sl eMarkovRule w (Old w) A' c' ys) :
    Calls Try.prog 50 #[.slice A xs.length c, .slice A' ys.length c'] w fun e w' => e = .returned (.bool (eq_SMarkovRule xs ys)) ∧ Below w.heap.size w w' := by
  have hlen := h.len
  have hlen' := h'.len
  unfold eq_SMarkovRule
  by_cases hne : xs.length = ys.length
  · have hne' : ((xs.length : Int) != (ys.length : Int)) = false := by simp [hne]
    have HE := Lib.hid hne; clear hne
    have H := Lib.hid h; clear h
    have H' := Lib.hid h'; clear h'
    go_enter Try.func50, Try.ntmps50
    go_wp2
    clear hne'
    go_loopw [5] (fun s5 wr => ∃ k : Nat, k ≤ xs.length ∧ s5 = .int .i64 k ∧ Hid (Below w.heap.size w wr) ∧ Hid (∀ j (h1 : j < xs.length) (h2 : j < ys.length), j < k → eq_MarkovRule xs[j] ys[j] = true)) (fun s5 _ => xs.length - (intOf s5).toNat)
    case atStart => exact ⟨0, Nat.zero_le _, rfl, Below.refl _ _, fun j _ _ h => absurd h (Nat.not_lt_zero _)⟩
    case round =>
      obtain ⟨k, hk, rfl, HL, HN⟩ := hrel
      by_cases hlt : k < xs.length
      · have hltz : (k : Int) < (xs.length : Int) := by omega
        have hlt' : k < ys.length := by have := HE.out; omega
        have hltz' : (k : Int) < (ys.length : Int) := by omega
        obtain ⟨bp, offp, esp, rfl, hbp, hR, hc⟩ := H.out.at hlt
        have HRp := Lib.hid (eMarkovRule.on hR HL.out)
        obtain ⟨Ap0, cp0, Ap1, cp1, rfl, gp0, gp1⟩ := shape_MarkovRule hR
        have dp0 : wr.cell? ⟨bp, offp + k * 3, none⟩ = some (.slice Ap0 xs[k].1.length cp0) := (below_olds HL.out _ hbp).trans (hc 0 _ rfl)
        have dp1 : wr.cell? ⟨bp, offp + k * 3 + 1, none⟩ = some (.slice Ap1 xs[k].2.1.length cp1) := (below_olds HL.out _ hbp).trans (hc 1 _ rfl)
        have dp2 : wr.cell? ⟨bp, offp + k * 3 + 2, none⟩ = some (.bool xs[k].2.2) := (below_olds HL.out _ hbp).trans (hc 2 _ rfl)
        clear hc gp0 gp1
        try clear hR
        obtain ⟨bq, offq, esq, rfl, hbq, hR, hc⟩ := H'.out.at hlt'
        have HRq := Lib.hid (eMarkovRule.on hR HL.out)
        obtain ⟨Aq0, cq0, Aq1, cq1, rfl, gq0, gq1⟩ := shape_MarkovRule hR
        have dq0 : wr.cell? ⟨bq, offq + k * 3, none⟩ = some (.slice Aq0 ys[k].1.length cq0) := (below_olds HL.out _ hbq).trans (hc 0 _ rfl)
        have dq1 : wr.cell? ⟨bq, offq + k * 3 + 1, none⟩ = some (.slice Aq1 ys[k].2.1.length cq1) := (below_olds HL.out _ hbq).trans (hc 1 _ rfl)
        have dq2 : wr.cell? ⟨bq, offq + k * 3 + 2, none⟩ = some (.bool ys[k].2.2) := (below_olds HL.out _ hbq).trans (hc 2 _ rfl)
        clear hc gq0 gq1
        try clear hR
        have HQ0 : Hid (eq_MarkovRule xs[k] ys[k] = false → eqL eq_MarkovRule xs ys = false) := eqL_get xs ys k hlt hlt'
        have HQ1 : Hid (eq_MarkovRule xs[k] ys[k] = true → ∀ j (h1 : j < xs.length) (h2 : j < ys.length), j < k + 1 → eq_MarkovRule xs[j] ys[j] = true) := fun e j h1 h2 hj => by
          by_cases ej : j = k
          · subst ej; exact e
          · exact HN.out j h1 h2 (by omega)
        generalize xs[k] = x at dp0 dp1 dp2 HRp HQ0 HQ1
        generalize ys[k] = y at dq0 dq1 dq2 HRq HQ0 HQ1
        go_wp2_with fail
        go_still_tail 8, (by kernel_rfl)
        cases hq : eq_MarkovRule x y
        · go_wp2_with fail
          refine (eq_MarkovRule_c _ _ x y _ (eMarkovRule.on HRp.out (Below.refl _ _).drew) (eMarkovRule.on HRq.out (Below.refl _ _).drew)).mono ?_
          rintro e w2 ⟨rfl, hb2⟩
          rw [hq]
          go_wp2
          go_ret
          exact ⟨by rw [HQ0.out hq]; rfl, HL.out.drew.trans (hb2.mono HL.out.size)⟩
        · go_wp2_with fail
          refine (eq_MarkovRule_c _ _ x y _ (eMarkovRule.on HRp.out (Below.refl _ _).drew) (eMarkovRule.on HRq.out (Below.refl _ _).drew)).mono ?_
          rintro e w2 ⟨rfl, hb2⟩
          rw [hq]
          go_wp2
          go_roundw
          case rel => exact ⟨k + 1, by omega, by go_num, HL.out.drew.trans (hb2.mono HL.out.size), HQ1.out hq⟩
          case measure => simp [intOf]; omega
      · have hltz : ¬ (k : Int) < (xs.length : Int) := by omega
        obtain rfl : k = xs.length := by omega
        go_wp2
        go_ret
        exact ⟨by rw [eqL_all xs ys HE.out fun j h1 h2 => HN.out j h1 h2 h1]; rfl, HL.out⟩
  · have hne' : ((xs.length : Int) != (ys.length : Int)) = true := by simp; omega
    rw [eqL_len xs ys hne]
    clear h h' hne
    go_enter Try.func50, Try.ntmps50
    go_wp2
    go_ret
    exact ⟨rfl, Below.refl _ _⟩

theorem cost_mem {α : Type} (f : α → Nat) (xs : List α) (k : Nat) (h : k < xs.length) : f xs[k] + xs.length ≤ costL f xs := by
  have h1 := costL_take f xs k h
  have h2 := cost_le f xs (k + 1)
  unfold costL
  omega

theorem info_impl_Int64 : (Try.prog.info? 2).map (fun i => (i.zero, i.size, i.bytes)) = some (some (.int .i64 0), 1, 8) := by kernel_rfl

set_option maxHeartbeats 1000000 in
theorem to_Int64S (A : Option Addr) (c : Nat) (xs : List Int) (w : World) (h : Sl eInt w (Old w) A c xs) (hsm : cost_L xs ≤ 1048576) :
    Calls Try.prog 117 #[.slice A xs.length c] w fun e w' => ∃ A' c', e = .returned (.slice A' xs.length c') ∧ So eInt w' (Fr w w') A' c' xs ∧ Below w.heap.size w w' := by
  obtain ⟨i0, hi0, hz0, hz1, hz2⟩ := info_parts info_impl_Int64
  have hlen := h.len
  have hsl : xs.length ≤ 1048576 := by exact hsm
  have HCO := Lib.hid hsm; clear hsm
  have H := Lib.hid h; clear h
  go_enter Try.func117, Try.ntmps117
  go_wp2_with (at_make; refine wpList_make_full _ rfl _ _ 30 rfl w.heap.size 2 i0 _ 1 Try.underlying30 hi0 hz0 hz1 _ _ _ _ xs.length rfl rfl rfl rfl (by rw [hz2]; omega) (by unfold maxLen; omega) (Nat.le_refl _) ?_)
  intro w1 hown hgrow
  obtain ⟨cur, hB, hs, ht, hn1, hn2⟩ := Blk.of_own hown
  have HB := Lib.hid hB; clear hB
  have HS : Hid (cur.size = xs.length) := by show _ = _; omega
  have hbel : Below w.heap.size w w1 := (Below.refl _ _).grown hgrow (Nat.le_refl _) (by simp)
  have HL := Lib.hid hbel; clear hbel
  clear hs ht hn1 hn2 hgrow hown hi0 hz0 hz1 hz2
  go_wp2_with fail
  go_loopw [4] (fun s4 wr => ∃ (k : Nat) (cur : Array Value), k ≤ xs.length ∧ s4 = .int .i64 k ∧ Hid (Below w.heap.size w wr) ∧ Hid (Blk wr w.heap.size 2 cur) ∧ Hid (cur.size = xs.length) ∧ Hid (Filled eInt wr w.heap.size (fun b => w.heap.size ≤ b) cur k xs)) (fun s4 _ => xs.length - (intOf s4).toNat)
  case atStart => exact ⟨0, cur, Nat.zero_le _, rfl, HL, HB, HS, Filled.zero⟩
  case round =>
    clear HB HS HL
    obtain ⟨k, cur, hk, rfl, HL, HB, HS, HF⟩ := hrel
    by_cases hlt : k < xs.length
    · have hltz : (k : Int) < (xs.length : Int) := by omega
      obtain ⟨b, off, es, rfl, hb, hR, hc⟩ := H.out.at1 rfl hlt
      have HX : Hid (xs[k]? = some xs[k]) := List.getElem?_eq_getElem hlt
      obtain ⟨rfl, gq⟩ := hR
      have d0 : wr.cell? ⟨b, off + k, none⟩ = some (.int .i64 xs[k]) := (below_olds HL.out _ hb).trans (hc _ rfl)
      have HR := Lib.hid gq
      clear hc gq
      try clear hR
      obtain ⟨v0, hv0⟩ : ∃ v, cur[k]? = some v := get_some (by have := HS.out; omega)
      have HV0 := Lib.hid hv0; clear hv0
      generalize xs[k] = y at d0 HX HR
      have e0 : wr.cell? ⟨w.heap.size, k, none⟩ = some v0 := (HB.out.cell _).trans HV0.out
      have f0 := HB.out.frozen (k)
      go_wp2
      go_roundw
      case rel =>
        exact ⟨k + 1, setAll cur k [_], by omega, by go_num, HL.out.setCell (Nat.le_refl _) _, HB.out.set _ _, (size_setAll _ _ _).trans HS.out, by
          have := (HF.out.set k (.int .i64 y)).step (w' := wr.setCell ⟨w.heap.size, k, none⟩ (.int .i64 y)) (T0 := fun _ => False) (es := [.int .i64 y]) (fun _ _ _ => rfl) (Nat.le_refl _) HX.out ⟨rfl, HR.out⟩ (fun _ h => h.elim) (by have := HS.out; show (k + 1) * 1 ≤ _; omega)
          rw [show k * eInt.size = k from Nat.mul_one k] at this
          exact this⟩
      case measure => simp [intOf]; omega
    · have hltz : ¬ (k : Int) < (xs.length : Int) := by omega
      obtain rfl : k = xs.length := by omega
      go_wp2
      go_ret
      exact ⟨_, _, rfl, HF.out.soFr HB.out (Nat.le_refl _) (by unfold maxLen; omega), HL.out⟩

theorem info_impl_MarkovRule : (Try.prog.info? 141).map (fun i => (i.zero, i.size, i.bytes)) = some (some (.agg #[.slice none 0 0, .slice none 0 0, .bool false]), 3, 56) := by kernel_rfl

set_option maxRecDepth 100000 in
set_option maxHeartbeats 2000000 in
theorem to_MarkovRule (es : List Value) (x : tMarkovRule) (w : World) (h : eMarkovRule.R w (Old w) es x) (hcost : cost_MarkovRule x ≤ 1048576) :
    Calls Try.prog 110 #[.agg es.toArray] w fun e w' => ∃ es', e = .returned (.agg es'.toArray) ∧ eMarkovRule.O w' (Fr w w') es' x ∧ Below w.heap.size w w' := by
  obtain ⟨A0, c0, A1, c1, rfl, g0, g1⟩ := shape_MarkovRule h
  have HC : Hid (cost_MarkovRule x ≤ 1048576) := hcost
  unfold cost_MarkovRule at hcost
  have HB0 : Hid (Below w.heap.size w (((w.alloc (.cells #[.slice A0 x.1.length c0, .slice A1 x.2.1.length c1, .bool x.2.2] 140)).alloc (.cells #[.slice none 0 0, .slice none 0 0, .bool false] 141)).alloc (.cells #[.slice none 0 0, .slice none 0 0, .bool false] 141))) := by show Below _ _ _; go_grown
  have hc0 : cost_L x.1 ≤ 1048576 := by omega
  have HC0 := Lib.hid hc0; clear hc0
  have K0 := Lib.hid g0; clear g0
  have hc1 : cost_L x.2.1 ≤ 1048576 := by omega
  have HC1 := Lib.hid hc1; clear hc1
  have K1 := Lib.hid g1; clear g1
  clear hcost h
  go_enter Try.func110, Try.ntmps110
  go_wp2_with fail
  refine (to_Int64S _ _ x.1 _ (by exact K0.out.on HB0.out) HC0.out).mono ?_
  rintro e w1 ⟨A0', c0', rfl, hs, hb⟩
  have HS1 := Lib.hid hs; clear hs
  have BL1 := Lib.hid (HB0.out.trans (hb.mono HB0.out.size))
  have HBW1 := Lib.hid hb; clear hb
  have HX := Lib.hid ((((Blk.new w 140 #[.slice A0 x.1.length c0, .slice A1 x.2.1.length c1, .bool x.2.2]).alloc _).alloc _).on HBW1.out)
  have HR := Lib.hid (((Blk.new1 w _ 141 #[.slice none 0 0, .slice none 0 0, .bool false]).alloc _).on HBW1.out)
  have HO : Hid (Blk w1 (w.heap.size + 1 + 1) 141 #[.slice none 0 0, .slice none 0 0, .bool false]) := (Blk.new2 w _ _ 141 #[.slice none 0 0, .slice none 0 0, .bool false]).on HBW1.out
  have x0 : w1.cell? ⟨w.heap.size, 0, none⟩ = some (.slice A0 x.1.length c0) := HX.out.cell 0
  have o0 : w1.cell? ⟨w.heap.size + 1 + 1, 0, none⟩ = some (.slice none 0 0) := HO.out.cell 0
  have r0 : w1.cell? ⟨w.heap.size + 1, 0, none⟩ = some (.slice none 0 0) := HR.out.cell 0
  have p0 : w1.frozen? ⟨w.heap.size + 1 + 1, 0, none⟩ = false := HO.out.frozen 0
  have q0 : w1.frozen? ⟨w.heap.size + 1, 0, none⟩ = false := HR.out.frozen 0
  have x1 : w1.cell? ⟨w.heap.size, 1, none⟩ = some (.slice A1 x.2.1.length c1) := HX.out.cell 1
  have o1 : w1.cell? ⟨w.heap.size + 1 + 1, 1, none⟩ = some (.slice none 0 0) := HO.out.cell 1
  have r1 : w1.cell? ⟨w.heap.size + 1, 1, none⟩ = some (.slice none 0 0) := HR.out.cell 1
  have p1 : w1.frozen? ⟨w.heap.size + 1 + 1, 1, none⟩ = false := HO.out.frozen 1
  have q1 : w1.frozen? ⟨w.heap.size + 1, 1, none⟩ = false := HR.out.frozen 1
  have x2 : w1.cell? ⟨w.heap.size, 2, none⟩ = some (.bool x.2.2) := HX.out.cell 2
  have o2 : w1.cell? ⟨w.heap.size + 1 + 1, 2, none⟩ = some (.bool false) := HO.out.cell 2
  have r2 : w1.cell? ⟨w.heap.size + 1, 2, none⟩ = some (.bool false) := HR.out.cell 2
  have p2 : w1.frozen? ⟨w.heap.size + 1 + 1, 2, none⟩ = false := HO.out.frozen 2
  have q2 : w1.frozen? ⟨w.heap.size + 1, 2, none⟩ = false := HR.out.frozen 2
  go_wp2_with fail
  refine (to_Int64S _ _ x.2.1 _ (by exact K1.out.on (BL1.out.setCell (p := ⟨w.heap.size + 1 + 1, 0, none⟩) (by show w.heap.size ≤ w.heap.size + 1 + 1; omega) _)) HC1.out).mono ?_
  rintro e w2 ⟨A1', c1', rfl, hs, hb⟩
  have HS2 := Lib.hid hs; clear hs
  have BL2 := Lib.hid ((BL1.out.setCell (p := ⟨w.heap.size + 1 + 1, 0, none⟩) (by show w.heap.size ≤ w.heap.size + 1 + 1; omega) _).trans (hb.mono (BL1.out.setCell (p := ⟨w.heap.size + 1 + 1, 0, none⟩) (by show w.heap.size ≤ w.heap.size + 1 + 1; omega) _).size))
  have HBW2 := Lib.hid hb; clear hb
  have HX' := Lib.hid ((HX.out.far (p := ⟨w.heap.size + 1 + 1, 0, none⟩) (by show w.heap.size ≠ w.heap.size + 1 + 1; omega) _).on HBW2.out); clear HX; have HX := HX'; clear HX'
  have HR' := Lib.hid ((HR.out.far (p := ⟨w.heap.size + 1 + 1, 0, none⟩) (by show w.heap.size + 1 ≠ w.heap.size + 1 + 1; omega) _).on HBW2.out); clear HR; have HR := HR'; clear HR'
  have HO' : Hid (Blk w2 (w.heap.size + 1 + 1) 141 #[.slice A0' x.1.length c0', .slice none 0 0, .bool false]) := (HO.out.set _ _).on HBW2.out; clear HO; have HO := HO'; clear HO'
  clear x0 o0 r0 p0 q0 x1 o1 r1 p1 q1 x2 o2 r2 p2 q2
  have x0 : w2.cell? ⟨w.heap.size, 0, none⟩ = some (.slice A0 x.1.length c0) := HX.out.cell 0
  have o0 : w2.cell? ⟨w.heap.size + 1 + 1, 0, none⟩ = some (.slice A0' x.1.length c0') := HO.out.cell 0
  have r0 : w2.cell? ⟨w.heap.size + 1, 0, none⟩ = some (.slice none 0 0) := HR.out.cell 0
  have p0 : w2.frozen? ⟨w.heap.size + 1 + 1, 0, none⟩ = false := HO.out.frozen 0
  have q0 : w2.frozen? ⟨w.heap.size + 1, 0, none⟩ = false := HR.out.frozen 0
  have x1 : w2.cell? ⟨w.heap.size, 1, none⟩ = some (.slice A1 x.2.1.length c1) := HX.out.cell 1
  have o1 : w2.cell? ⟨w.heap.size + 1 + 1, 1, none⟩ = some (.slice none 0 0) := HO.out.cell 1
  have r1 : w2.cell? ⟨w.heap.size + 1, 1, none⟩ = some (.slice none 0 0) := HR.out.cell 1
  have p1 : w2.frozen? ⟨w.heap.size + 1 + 1, 1, none⟩ = false := HO.out.frozen 1
  have q1 : w2.frozen? ⟨w.heap.size + 1, 1, none⟩ = false := HR.out.frozen 1
  have x2 : w2.cell? ⟨w.heap.size, 2, none⟩ = some (.bool x.2.2) := HX.out.cell 2
  have o2 : w2.cell? ⟨w.heap.size + 1 + 1, 2, none⟩ = some (.bool false) := HO.out.cell 2
  have r2 : w2.cell? ⟨w.heap.size + 1, 2, none⟩ = some (.bool false) := HR.out.cell 2
  have p2 : w2.frozen? ⟨w.heap.size + 1 + 1, 2, none⟩ = false := HO.out.frozen 2
  have q2 : w2.frozen? ⟨w.heap.size + 1, 2, none⟩ = false := HR.out.frozen 2
  go_wp2
  have hE : Blk (((((w2.setCell ⟨w.heap.size + 1 + 1, 1, none⟩ (.slice A1' x.2.1.length c1')).setCell ⟨w.heap.size + 1 + 1, 2, none⟩ (.bool x.2.2)).setCell ⟨w.heap.size + 1, 0, none⟩ (.slice A0' x.1.length c0')).setCell ⟨w.heap.size + 1, 1, none⟩ (.slice A1' x.2.1.length c1')).setCell ⟨w.heap.size + 1, 2, none⟩ (.bool x.2.2)) (w.heap.size + 1) 141 #[.slice A0' x.1.length c0', .slice A1' x.2.1.length c1', .bool x.2.2] := (((((HR.out.far (p := ⟨w.heap.size + 1 + 1, 1, none⟩) (by show w.heap.size + 1 ≠ w.heap.size + 1 + 1; omega) _).far (p := ⟨w.heap.size + 1 + 1, 2, none⟩) (by show w.heap.size + 1 ≠ w.heap.size + 1 + 1; omega) _).set _ _).set _ _).set _ _)
  have e0 : (((((w2.setCell ⟨w.heap.size + 1 + 1, 1, none⟩ (.slice A1' x.2.1.length c1')).setCell ⟨w.heap.size + 1 + 1, 2, none⟩ (.bool x.2.2)).setCell ⟨w.heap.size + 1, 0, none⟩ (.slice A0' x.1.length c0')).setCell ⟨w.heap.size + 1, 1, none⟩ (.slice A1' x.2.1.length c1')).setCell ⟨w.heap.size + 1, 2, none⟩ (.bool x.2.2)).cell? ⟨w.heap.size + 1, 0, none⟩ = some (.slice A0' x.1.length c0') := hE.cell 0
  have e1 : (((((w2.setCell ⟨w.heap.size + 1 + 1, 1, none⟩ (.slice A1' x.2.1.length c1')).setCell ⟨w.heap.size + 1 + 1, 2, none⟩ (.bool x.2.2)).setCell ⟨w.heap.size + 1, 0, none⟩ (.slice A0' x.1.length c0')).setCell ⟨w.heap.size + 1, 1, none⟩ (.slice A1' x.2.1.length c1')).setCell ⟨w.heap.size + 1, 2, none⟩ (.bool x.2.2)).cell? ⟨w.heap.size + 1, 1, none⟩ = some (.slice A1' x.2.1.length c1') := hE.cell 1
  have e2 : (((((w2.setCell ⟨w.heap.size + 1 + 1, 1, none⟩ (.slice A1' x.2.1.length c1')).setCell ⟨w.heap.size + 1 + 1, 2, none⟩ (.bool x.2.2)).setCell ⟨w.heap.size + 1, 0, none⟩ (.slice A0' x.1.length c0')).setCell ⟨w.heap.size + 1, 1, none⟩ (.slice A1' x.2.1.length c1')).setCell ⟨w.heap.size + 1, 2, none⟩ (.bool x.2.2)).cell? ⟨w.heap.size + 1, 2, none⟩ = some (.bool x.2.2) := hE.cell 2
  refine bodyPost_ret (v := .agg #[.slice A0' x.1.length c0', .slice A1' x.2.1.length c1', .bool x.2.2]) (by simp [results, Try.results110, go_sem, e0, e1, e2]) rfl ?_
  have t1 : w.heap.size + 3 ≤ w1.heap.size := by have h1 := HBW1.out.size; simp only [World.size_alloc] at h1; omega
  have t2 : w.heap.size + 3 ≤ w2.heap.size := by have h1 := HBW1.out.size; simp only [World.size_alloc] at h1; have h2 := HBW2.out.size; simp only [World.size_setCell] at h2; omega
  refine ⟨[.slice A0' x.1.length c0', .slice A1' x.2.1.length c1', .bool x.2.2], rfl, ?_, ?_⟩
  · have sE1 : So eInt (((((w2.setCell ⟨w.heap.size + 1 + 1, 1, none⟩ (.slice A1' x.2.1.length c1')).setCell ⟨w.heap.size + 1 + 1, 2, none⟩ (.bool x.2.2)).setCell ⟨w.heap.size + 1, 0, none⟩ (.slice A0' x.1.length c0')).setCell ⟨w.heap.size + 1, 1, none⟩ (.slice A1' x.2.1.length c1')).setCell ⟨w.heap.size + 1, 2, none⟩ (.bool x.2.2)) (Iv w.heap.size w1.heap.size) _ _ x.1 := (HS1.out.keep (w' := (((((w2.setCell ⟨w.heap.size + 1 + 1, 1, none⟩ (.slice A1' x.2.1.length c1')).setCell ⟨w.heap.size + 1 + 1, 2, none⟩ (.bool x.2.2)).setCell ⟨w.heap.size + 1, 0, none⟩ (.slice A0' x.1.length c0')).setCell ⟨w.heap.size + 1, 1, none⟩ (.slice A1' x.2.1.length c1')).setCell ⟨w.heap.size + 1, 2, none⟩ (.bool x.2.2))) fun b hb => ((((((((Lat.refl (w.heap.size + 3) w1).set (p := ⟨w.heap.size + 1 + 1, 0, none⟩) (by show w.heap.size + 1 + 1 < _; omega)).below HBW2.out).set (p := ⟨w.heap.size + 1 + 1, 1, none⟩) (by show w.heap.size + 1 + 1 < _; omega)).set (p := ⟨w.heap.size + 1 + 1, 2, none⟩) (by show w.heap.size + 1 + 1 < _; omega)).set (p := ⟨w.heap.size + 1, 0, none⟩) (by show w.heap.size + 1 < _; omega)).set (p := ⟨w.heap.size + 1, 1, none⟩) (by show w.heap.size + 1 < _; omega)).set (p := ⟨w.heap.size + 1, 2, none⟩) (by show w.heap.size + 1 < _; omega)).block b (by have h1 := hb.1; simp only [World.size_alloc, World.size_setCell] at h1; omega) hb.2).more (Iv.mono (by simp only [World.size_alloc]; omega) (by omega))
    have u2 : w1.heap.size ≤ w2.heap.size := by have := HBW2.out.size; simp only [World.size_setCell] at this; omega
    have sE2 : So eInt (((((w2.setCell ⟨w.heap.size + 1 + 1, 1, none⟩ (.slice A1' x.2.1.length c1')).setCell ⟨w.heap.size + 1 + 1, 2, none⟩ (.bool x.2.2)).setCell ⟨w.heap.size + 1, 0, none⟩ (.slice A0' x.1.length c0')).setCell ⟨w.heap.size + 1, 1, none⟩ (.slice A1' x.2.1.length c1')).setCell ⟨w.heap.size + 1, 2, none⟩ (.bool x.2.2)) (Iv w1.heap.size w2.heap.size) _ _ x.2.1 := (HS2.out.keep (w' := (((((w2.setCell ⟨w.heap.size + 1 + 1, 1, none⟩ (.slice A1' x.2.1.length c1')).setCell ⟨w.heap.size + 1 + 1, 2, none⟩ (.bool x.2.2)).setCell ⟨w.heap.size + 1, 0, none⟩ (.slice A0' x.1.length c0')).setCell ⟨w.heap.size + 1, 1, none⟩ (.slice A1' x.2.1.length c1')).setCell ⟨w.heap.size + 1, 2, none⟩ (.bool x.2.2))) fun b hb => ((((((Lat.refl (w.heap.size + 3) w2).set (p := ⟨w.heap.size + 1 + 1, 1, none⟩) (by show w.heap.size + 1 + 1 < _; omega)).set (p := ⟨w.heap.size + 1 + 1, 2, none⟩) (by show w.heap.size + 1 + 1 < _; omega)).set (p := ⟨w.heap.size + 1, 0, none⟩) (by show w.heap.size + 1 < _; omega)).set (p := ⟨w.heap.size + 1, 1, none⟩) (by show w.heap.size + 1 < _; omega)).set (p := ⟨w.heap.size + 1, 2, none⟩) (by show w.heap.size + 1 < _; omega)).block b (by have h1 := hb.1; simp only [World.size_alloc, World.size_setCell] at h1; omega) hb.2).more (Iv.mono (by simp only [World.size_setCell]; omega) (by omega))
    exact (oPr (l := w.heap.size) (m := w1.heap.size) (oSl sE1) (oPr (l := w1.heap.size) (m := w2.heap.size) (oSl sE2) oB (by omega) (by first | omega | (simp only [World.size_setCell]; omega))) (by omega) (by first | omega | (simp only [World.size_setCell]; omega)))
  · exact (((((BL2.out.setCell (p := ⟨w.heap.size + 1 + 1, 1, none⟩) (by show w.heap.size ≤ w.heap.size + 1 + 1; omega) _).setCell (p := ⟨w.heap.size + 1 + 1, 2, none⟩) (by show w.heap.size ≤ w.heap.size + 1 + 1; omega) _).setCell (p := ⟨w.heap.size + 1, 0, none⟩) (by show w.heap.size ≤ w.heap.size + 1; omega) _).setCell (p := ⟨w.heap.size + 1, 1, none⟩) (by show w.heap.size ≤ w.heap.size + 1; omega) _).setCell (p := ⟨w.heap.size + 1, 2, none⟩) (by show w.heap.size ≤ w.heap.size + 1; omega) _)

set_option maxHeartbeats 1000000 in
theorem to_MarkovRuleS (A : Option Addr) (c : Nat) (xs : List tMarkovRule) (w : World) (h : Sl eMarkovRule w (Old w) A c xs) (hsm : cost_SMarkovRule xs ≤ 1048576) :
    Calls Try.prog 48 #[.slice A xs.length c] w fun e w' => ∃ A' c', e = .returned (.slice A' xs.length c') ∧ So eMarkovRule w' (Fr w w') A' c' xs ∧ Below w.heap.size w w' := by
  obtain ⟨i0, hi0, hz0, hz1, hz2⟩ := info_parts info_impl_MarkovRule
  have hlen := h.len
  have hsl : xs.length ≤ 1048576 := by have : cost_SMarkovRule xs = costL cost_MarkovRule xs := rfl; unfold costL at this; omega
  have HCO := Lib.hid hsm; clear hsm
  have H := Lib.hid h; clear h
  go_enter Try.func48, Try.ntmps48
  go_wp2_with (at_make; refine wpList_make_full _ rfl _ _ 65 rfl w.heap.size 141 i0 _ 3 Try.underlying65 hi0 hz0 hz1 _ _ _ _ xs.length rfl rfl rfl rfl (by rw [hz2]; omega) (by unfold maxLen; omega) (Nat.le_refl _) ?_)
  intro w1 hown hgrow
  obtain ⟨cur, hB, hs, ht, hn1, hn2⟩ := Blk.of_own hown
  have HB := Lib.hid hB; clear hB
  have HS : Hid (cur.size = xs.length * 3) := by show _ = _; omega
  have hbel : Below w.heap.size w w1 := (Below.refl _ _).grown hgrow (Nat.le_refl _) (by simp)
  have HL := Lib.hid hbel; clear hbel
  clear hs ht hn1 hn2 hgrow hown hi0 hz0 hz1 hz2
  go_wp2_with fail
  go_loopw [4] (fun s4 wr => ∃ (k : Nat) (cur : Array Value), k ≤ xs.length ∧ s4 = .int .i64 k ∧ Hid (Below w.heap.size w wr) ∧ Hid (Blk wr w.heap.size 141 cur) ∧ Hid (cur.size = xs.length * 3) ∧ Hid (Filled eMarkovRule wr w.heap.size (fun b => w.heap.size ≤ b) cur k xs)) (fun s4 _ => xs.length - (intOf s4).toNat)
  case atStart => exact ⟨0, cur, Nat.zero_le _, rfl, HL, HB, HS, Filled.zero⟩
  case round =>
    clear HB HS HL
    obtain ⟨k, cur, hk, rfl, HL, HB, HS, HF⟩ := hrel
    by_cases hlt : k < xs.length
    · have hltz : (k : Int) < (xs.length : Int) := by omega
      obtain ⟨b, off, es, rfl, hb, hR, hc⟩ := H.out.at hlt
      have HX : Hid (xs[k]? = some xs[k]) := List.getElem?_eq_getElem hlt
      have HR := Lib.hid (eMarkovRule.on hR HL.out)
      have HCS : Hid (cost_MarkovRule xs[k] ≤ 1048576) := by have h1 := cost_mem cost_MarkovRule xs k hlt; have h2 : cost_SMarkovRule xs = costL cost_MarkovRule xs := rfl; have := HCO.out; show _ ≤ _; omega
      obtain ⟨Aq0, cq0, Aq1, cq1, rfl, gq0, gq1⟩ := shape_MarkovRule hR
      have d0 : wr.cell? ⟨b, off + k * 3, none⟩ = some (.slice Aq0 xs[k].1.length cq0) := (below_olds HL.out _ hb).trans (hc 0 _ rfl)
      have d1 : wr.cell? ⟨b, off + k * 3 + 1, none⟩ = some (.slice Aq1 xs[k].2.1.length cq1) := (below_olds HL.out _ hb).trans (hc 1 _ rfl)
      have d2 : wr.cell? ⟨b, off + k * 3 + 2, none⟩ = some (.bool xs[k].2.2) := (below_olds HL.out _ hb).trans (hc 2 _ rfl)
      clear hc gq0 gq1
      try clear hR
      obtain ⟨v0, hv0⟩ : ∃ v, cur[k * 3]? = some v := get_some (by have := HS.out; omega)
      obtain ⟨v1, hv1⟩ : ∃ v, cur[k * 3 + 1]? = some v := get_some (by have := HS.out; omega)
      obtain ⟨v2, hv2⟩ : ∃ v, cur[k * 3 + 2]? = some v := get_some (by have := HS.out; omega)
      have HV0 := Lib.hid hv0; clear hv0
      have HV1 := Lib.hid hv1; clear hv1
      have HV2 := Lib.hid hv2; clear hv2
      generalize xs[k] = y at d0 d1 d2 HX HR HCS
      go_wp2_with fail
      refine (to_MarkovRule _ y _ HR.out HCS.out).mono ?_
      rintro e w2 ⟨es2, rfl, ho2, hb2⟩
      have hR2 := eMarkovRule.read ho2
      have HO2 := Lib.hid ho2; clear ho2
      obtain ⟨Ar0, cr0, Ar1, cr1, rfl, gr0, gr1⟩ := shape_MarkovRule hR2
      clear gr0 gr1
      try clear hR2
      have hB2 := HB.out.on hb2
      have e0 : w2.cell? ⟨w.heap.size, k * 3, none⟩ = some v0 := (hB2.cell _).trans HV0.out
      have e1 : w2.cell? ⟨w.heap.size, k * 3 + 1, none⟩ = some v1 := (hB2.cell _).trans HV1.out
      have e2 : w2.cell? ⟨w.heap.size, k * 3 + 2, none⟩ = some v2 := (hB2.cell _).trans HV2.out
      have f0 := hB2.frozen (k * 3)
      have f1 := hB2.frozen (k * 3 + 1)
      have f2 := hB2.frozen (k * 3 + 2)
      have HB2 := Lib.hid hB2; clear hB2
      have HL2 := Lib.hid hb2; clear hb2
      go_wp2
      go_roundw
      case rel =>
        have hL := HL.out
        have hL2 := HL2.out
        have hbs : ∀ b, b ≠ w.heap.size → ∀ W : World, (∀ b, b ≠ w.heap.size → W.heap[b]? = w2.heap[b]?) → W.heap[b]? = w2.heap[b]? := fun b hb W h => h b hb
        have hW : ∀ b, b ≠ w.heap.size → (((w2.setCell ⟨w.heap.size, k * 3, none⟩ (.slice Ar0 y.1.length cr0)).setCell ⟨w.heap.size, k * 3 + 1, none⟩ (.slice Ar1 y.2.1.length cr1)).setCell ⟨w.heap.size, k * 3 + 2, none⟩ (.bool y.2.2)).heap[b]? = w2.heap[b]? := fun b hb => by
          rw [Below.heap_setCell _ _ _ _ (by exact hb), Below.heap_setCell _ _ _ _ (by exact hb), Below.heap_setCell _ _ _ _ (by exact hb)]
        have hsz : (((w2.setCell ⟨w.heap.size, k * 3, none⟩ (.slice Ar0 y.1.length cr0)).setCell ⟨w.heap.size, k * 3 + 1, none⟩ (.slice Ar1 y.2.1.length cr1)).setCell ⟨w.heap.size, k * 3 + 2, none⟩ (.bool y.2.2)).heap.size = w2.heap.size := by simp [World.setCell]
        refine ⟨k + 1, setAll cur (k * 3) [.slice Ar0 y.1.length cr0, .slice Ar1 y.2.1.length cr1, .bool y.2.2], by omega, by go_num, ((((hL.trans (hL2.mono hL.size)).setCell (Nat.le_refl _) _).setCell (Nat.le_refl _) _).setCell (Nat.le_refl _) _), (((HB2.out.set _ _).set _ _).set _ _), (size_setAll _ _ _).trans HS.out, ?_⟩
        have hstep := (HF.out).step (w' := ((w2.setCell ⟨w.heap.size, k * 3, none⟩ (.slice Ar0 y.1.length cr0)).setCell ⟨w.heap.size, k * 3 + 1, none⟩ (.slice Ar1 y.2.1.length cr1)).setCell ⟨w.heap.size, k * 3 + 2, none⟩ (.bool y.2.2)) (T0 := Fr wr w2) (es := [.slice Ar0 y.1.length cr0, .slice Ar1 y.2.1.length cr1, .bool y.2.2]) (fun b hb hlt => (hW b hb).trans (hL2.block b hlt)) (by rw [hsz]; exact hL2.size) HX.out
          (eMarkovRule.okeep HO2.out fun b hb => hW b (fun e => by have := HB.out.lt; have := hb.1; omega)) (fun b hb => ⟨Nat.le_trans hL.size hb.1, fun e => by have := HB.out.lt; have := hb.1; omega, hb.1, by rw [hsz]; exact hb.2⟩) (by have := HS.out; show (k + 1) * 3 ≤ _; omega)
        exact hstep
      case measure => simp [intOf]; omega
    · have hltz : ¬ (k : Int) < (xs.length : Int) := by omega
      obtain rfl : k = xs.length := by omega
      go_wp2
      go_ret
      exact ⟨_, _, rfl, HF.out.soFr HB.out (Nat.le_refl _) (by unfold maxLen; omega), HL.out⟩

def outB (lo hi n : Int) : Bool := !withinB n lo hi

def allW (xs : List Int) (lo hi : Int) : Bool := !xs.any (outB lo hi)

def isWord (xs : List Int) : Bool := decide (xs.length ≤ 400) && allW xs 0 9

theorem impl_allWithin (A : Option Addr) (c : Nat) (xs : List Int) (lo hi : Int) (w : World) (h : Sl eInt w (Old w) A c xs) :
    Calls Try.prog 133 #[.slice A xs.length c, .int .i64 lo, .int .i64 hi] w fun e w' => e = .returned (.bool (allW xs lo hi)) ∧ w = w' := by
  have hlen := h.len
  have H := Lib.hid h; clear h
  unfold allW
  go_enter Try.func133, Try.ntmps133
  go_wp2
  go_loop [8, 11] (fun _ i => ∃ k : Nat, k ≤ xs.length ∧ i = .int .i64 k ∧ Hid ((xs.take k).any (outB lo hi) = false)) (fun _ i => xs.length - (intOf i).toNat)
  case atStart => exact ⟨0, Nat.zero_le _, rfl, rfl⟩
  case round =>
    obtain ⟨k, hk, rfl, HN⟩ := hrel
    by_cases hlt : k < xs.length
    · have hltz : (k : Int) < (xs.length : Int) := by omega
      obtain ⟨b, off, es, rfl, hb, ⟨rfl, _⟩, hc⟩ := H.out.at1 rfl hlt
      have d0 : w.cell? ⟨b, off + k, none⟩ = some (.int .i64 xs[k]) := hc _ rfl
      clear hc
      have HT : Hid (outB lo hi xs[k] = true → xs.any (outB lo hi) = true) := fun e => any_hit hlt e
      have HS : Hid (outB lo hi xs[k] = false → (xs.take (k + 1)).any (outB lo hi) = false) := fun e => any_step hlt HN.out e
      generalize xs[k] = y at d0 HT HS
      cases q1 : withinB y lo hi
      · go_wp2_with (go_at_call 72; refine (impl_within _ _ _ _).mono ?_; rintro e w' ⟨rfl, rfl⟩; rw [q1])
        go_ret
        exact ⟨by rw [HT.out (by unfold outB; rw [q1]; rfl)]; rfl, rfl⟩
      · go_wp2_with (go_at_call 72; refine (impl_within _ _ _ _).mono ?_; rintro e w' ⟨rfl, rfl⟩; rw [q1])
        go_round
        case rel => exact ⟨k + 1, by omega, by go_num, HS.out (by unfold outB; rw [q1]; rfl)⟩
        case measure => simp [intOf]; omega
    · have hltz : ¬ (k : Int) < (xs.length : Int) := by omega
      obtain rfl : k = xs.length := by omega
      go_wp2
      go_ret
      have hn := HN.out
      rw [List.take_length] at hn
      exact ⟨ret_bool (by rw [hn]; rfl), rfl⟩

theorem impl_isLetters (A : Option Addr) (c : Nat) (xs : List Int) (w : World) (h : Sl eInt w (Old w) A c xs) :
    Calls Try.prog 156 #[.slice A xs.length c] w fun e w' => e = .returned (.bool (allW xs 0 9)) ∧ w = w' := by
  have H := Lib.hid h; clear h
  go_enter Try.func156, Try.ntmps156
  go_wp2_with (go_at_call 133; refine (impl_allWithin _ _ _ _ _ _ H.out).mono ?_; rintro e w' ⟨rfl, rfl⟩)
  go_ret
  exact ⟨rfl, rfl⟩

theorem impl_IsWord (A : Option Addr) (c : Nat) (xs : List Int) (w : World) (h : Sl eInt w (Old w) A c xs) :
    Calls Try.prog 144 #[.slice A xs.length c] w fun e w' => e = .returned (.bool (isWord xs)) ∧ w = w' := by
  have H := Lib.hid h; clear h
  by_cases h1 : xs.length ≤ 400
  · have h1' : decide ((xs.length : Int) ≤ 400) = true := by simp; omega
    rw [show isWord xs = allW xs 0 9 from by unfold isWord; simp [h1]]
    go_enter Try.func144, Try.ntmps144
    go_wp2_with (go_at_call 156; refine (impl_isLetters _ _ _ _ H.out).mono ?_; rintro e w' ⟨rfl, rfl⟩)
    go_ret
    exact ⟨rfl, rfl⟩
  · have h1' : decide ((xs.length : Int) ≤ 400) = false := by simp; omega
    rw [show isWord xs = false from by unfold isWord; simp [h1]]
    go_enter Try.func144, Try.ntmps144
    go_wp2_with fail
    go_ret
    exact ⟨rfl, rfl⟩

theorem enters_areWords1 : ∀ args w, (callFunc 143 args).run Try.prog w = .ok (.enter 143 args) w := enters_of Try.func143 (by kernel_rfl) rfl

def notWord (xs : List Int) : Bool := !isWord xs

theorem impl_areWords1 (es : List Value) (xs : List Int) (w : World) (h : (eSl eInt).R w (Old w) es xs) :
    Calls Try.prog 143 #[es[0]!] w fun e w' => e = .returned (.bool (notWord xs)) ∧ Below w.heap.size w w' := by
  obtain ⟨A, c, rfl, h⟩ := h
  have H := Lib.hid h; clear h
  show Calls Try.prog 143 #[.slice A xs.length c] w _
  go_enter Try.func143, Try.ntmps143
  go_wp2_with (go_at_call 144; refine (impl_IsWord _ _ _ _ H.out).mono ?_; rintro e w' ⟨rfl, rfl⟩)
  go_ret
  exact ⟨rfl, Below.refl _ _⟩

theorem impl_areWords (A : Option Addr) (c : Nat) (xs : List (List Int)) (w : World) (h : Sl (eSl eInt) w (Old w) A c xs) :
    Calls Try.prog 106 #[.slice A xs.length c] w fun e w' => e = .returned (.bool (!xs.any notWord)) ∧ Below w.heap.size w w' := by
  have hI := Lib.hid (ContainsFunc_Int64S notWord 143 #[] A c xs w h enters_areWords1 (fun W x es _ hb hR => impl_areWords1 es x W hR)); clear h
  go_enter Try.func106, Try.ntmps106
  go_wp2_with (go_at_call 139; refine hI.out.mono ?_; rintro e w' ⟨rfl, hb⟩)
  go_ret
  exact ⟨rfl, hb⟩

theorem sl_two {α : Type} {E : Enc α} {w : World} {S : Nat → Prop} {g : Nat} {t : TypeId} {A0 A1 : Option Addr} {c0 c1 : Nat} {x0 x1 : List α} (hB : Blk w g t #[.slice A0 x0.length c0, .slice A1 x1.length c1]) (hg : S g) (h0 : Sl E w S A0 c0 x0) (h1 : Sl E w S A1 c1 x1) :
    Sl (eSl E) w S (some ⟨g, 0, none⟩) 2 [x0, x1] :=
  ⟨Nat.le_refl _, by unfold maxLen; omega, fun _ => ⟨g, 0, rfl, hg, fun i x hx => by
    rcases i with _ | _ | i
    · simp at hx; subst hx
      refine ⟨_, ⟨A0, c0, rfl, h0⟩, fun j v hv => ?_⟩
      rcases j with _ | j
      · simp at hv; subst hv; exact hB.cell 0
      · simp at hv
    · simp at hx; subst hx
      refine ⟨_, ⟨A1, c1, rfl, h1⟩, fun j v hv => ?_⟩
      rcases j with _ | j
      · simp at hv; subst hv; exact hB.cell 1
      · simp at hv
    · simp at hx⟩⟩

theorem any_two (a b : List Int) : (!([a, b].any notWord)) = (isWord a && isWord b) := by
  simp [notWord]

theorem spec_l03Is (A : Option Addr) (c : Nat) (xs : List Int) (w : World) (h : Sl eInt w (Old w) A c xs) :
    Calls Try.prog 141 #[.slice A xs.length c] w fun e w' => e = .returned (.bool (isWord xs)) ∧ w = w' := by
  have hlen := h.len
  have H := Lib.hid h; clear h
  have HV : Hid (isWord xs = (decide (xs.length ≤ 400) && !xs.any (outB 0 9))) := rfl
  go_enter Try.func141, Try.ntmps141
  go_wp2
  go_loop [3] (fun i => ∃ k : Nat, k ≤ xs.length ∧ i = .int .i64 k ∧ Hid ((xs.take k).any (outB 0 9) = false)) (fun i => xs.length - (intOf i).toNat)
  case atStart => exact ⟨0, Nat.zero_le _, rfl, rfl⟩
  case round =>
    obtain ⟨k, hk, rfl, HN⟩ := hrel
    by_cases hlt : k < xs.length
    · have hltz : (k : Int) < (xs.length : Int) := by omega
      obtain ⟨b, off, es, rfl, hb, ⟨rfl, _⟩, hc⟩ := H.out.at1 rfl hlt
      have d0 : w.cell? ⟨b, off + k, none⟩ = some (.int .i64 xs[k]) := hc _ rfl
      clear hc
      have HT : Hid (outB 0 9 xs[k] = true → xs.any (outB 0 9) = true) := fun e => any_hit hlt e
      have HS : Hid (outB 0 9 xs[k] = false → (xs.take (k + 1)).any (outB 0 9) = false) := fun e => any_step hlt HN.out e
      generalize xs[k] = y at d0 HT HS
      cases q1 : withinB y 0 9
      · go_wp2_with (go_at_call 119; refine (spec_l00In _ _ _ _).mono ?_; rintro e w' ⟨rfl, rfl⟩; rw [q1])
        go_ret
        exact ⟨ret_bool (by rw [HV.out, HT.out (by unfold outB; rw [q1]; rfl)]; simp), rfl⟩
      · go_wp2_with (go_at_call 119; refine (spec_l00In _ _ _ _).mono ?_; rintro e w' ⟨rfl, rfl⟩; rw [q1])
        go_round
        case rel => exact ⟨k + 1, by omega, by go_num, HS.out (by unfold outB; rw [q1]; rfl)⟩
        case measure => simp [intOf]; omega
    · have hltz : ¬ (k : Int) < (xs.length : Int) := by omega
      obtain rfl : k = xs.length := by omega
      go_wp2
      go_ret
      have hn := HN.out
      rw [List.take_length] at hn
      exact ⟨ret_bool (by rw [HV.out, hn]; simp; omega), rfl⟩

def markovBad (x : tMarkovRule) : Bool := !(isWord x.1 && isWord x.2.1)

def validMarkov (xs : List tMarkovRule) : Bool := withinB xs.length 1 60 && !xs.any markovBad

theorem enters_ValidMarkov1 : ∀ args w, (callFunc 113 args).run Try.prog w = .ok (.enter 113 args) w := enters_of Try.func113 (by kernel_rfl) rfl

set_option maxHeartbeats 400000 in
theorem impl_ValidMarkov1 (es : List Value) (x : tMarkovRule) (w : World) (h : eMarkovRule.R w (Old w) es x) :
    Calls Try.prog 113 #[.agg es.toArray] w fun e w' => e = .returned (.bool (markovBad x)) ∧ Below w.heap.size w w' := by
  obtain ⟨A0, c0, A1, c1, rfl, g0, g1⟩ := shape_MarkovRule h
  clear h
  have hlen := g0.len
  have hB1 : Below w.heap.size w ((w.alloc (.cells #[.slice A0 x.1.length c0, .slice A1 x.2.1.length c1, .bool x.2.2] 141)).alloc (.cells #[.slice A0 x.1.length c0, .slice A1 x.2.1.length c1] 30)) := by go_grown
  have HW := Lib.hid (impl_areWords _ 2 [x.1, x.2.1] _ (sl_two (Blk.new1 w (.cells #[.slice A0 x.1.length c0, .slice A1 x.2.1.length c1, .bool x.2.2] 141) 30 #[.slice A0 x.1.length c0, .slice A1 x.2.1.length c1]) (by show _ < _; simp) (g0.on hB1) (g1.on hB1)))
  have HB1 := Lib.hid hB1; clear hB1 g0 g1
  go_enter Try.func113, Try.ntmps113
  go_wp2_with (go_at_call 106; refine HW.out.mono ?_; rintro e w1 ⟨rfl, hb⟩; rw [any_two])
  go_ret
  exact ⟨ret_bool (by unfold markovBad; simp), below_trans HB1.out hb⟩

theorem impl_ValidMarkov (A : Option Addr) (c : Nat) (xs : List tMarkovRule) (w : World) (h : Sl eMarkovRule w (Old w) A c xs) :
    Calls Try.prog 49 #[.slice A xs.length c] w fun e w' => e = .returned (.bool (validMarkov xs)) ∧ Below w.heap.size w w' := by
  unfold validMarkov
  have hI := Lib.hid (ContainsFunc_MarkovRule markovBad 113 #[] A c xs w h enters_ValidMarkov1 (fun W x es _ hb hR => impl_ValidMarkov1 es x W hR)); clear h
  cases h1 : withinB xs.length 1 60
  · go_enter Try.func49, Try.ntmps49
    go_wp2_with (first | (go_at_call 111; refine (impl_size_MarkovRule _ _ _ _).mono ?_; rintro e w' ⟨rfl, rfl⟩) | (go_at_call 72; refine (impl_within _ _ _ _).mono ?_; rintro e w' ⟨rfl, rfl⟩; rw [h1]))
    go_ret
    exact ⟨by simp, Below.refl _ _⟩
  · go_enter Try.func49, Try.ntmps49
    go_wp2_with (first | (go_at_call 111; refine (impl_size_MarkovRule _ _ _ _).mono ?_; rintro e w' ⟨rfl, rfl⟩) | (go_at_call 72; refine (impl_within _ _ _ _).mono ?_; rintro e w' ⟨rfl, rfl⟩; rw [h1]) | (go_at_call 112; refine hI.out.mono ?_; rintro e w' ⟨rfl, hb⟩))
    go_ret
    exact ⟨by simp, hb⟩

set_option maxHeartbeats 1000000 in
theorem spec_l10Markov (A : Option Addr) (c : Nat) (xs : List tMarkovRule) (w : World) (h : Sl eMarkovRule w (Old w) A c xs) :
    Calls Try.prog 109 #[.slice A xs.length c] w fun e w' => e = .returned (.bool (validMarkov xs)) ∧ w = w' := by
  have hlen := h.len
  have H := Lib.hid h; clear h
  by_cases h1 : xs.length < 1
  · rw [show validMarkov xs = false from by unfold validMarkov withinB; simp; omega]
    have h1' : (xs.length : Int) < 1 := by omega
    go_enter Try.func109, Try.ntmps109
    go_wp2
    go_ret
    exact ⟨rfl, rfl⟩
  by_cases h2 : xs.length > 60
  · rw [show validMarkov xs = false from by unfold validMarkov withinB; simp; omega]
    have h1' : decide ((xs.length : Int) < 1) = false := by simp; omega
    have h2' : (60 : Int) < (xs.length : Int)  := by omega
    go_enter Try.func109, Try.ntmps109
    go_wp2
    go_ret
    exact ⟨rfl, rfl⟩
  rw [show validMarkov xs = !xs.any markovBad from by unfold validMarkov; rw [withinB_true.2 (by omega)]; rfl]
  have h1' : decide ((xs.length : Int) < 1) = false := by simp; omega
  have h2' : decide ((60 : Int) < (xs.length : Int)) = false := by simp; omega
  go_enter Try.func109, Try.ntmps109
  go_wp2
  go_loop [3] (fun i => ∃ k : Nat, k ≤ xs.length ∧ i = .int .i64 k ∧ Hid ((xs.take k).any markovBad = false)) (fun i => xs.length - (intOf i).toNat)
  case atStart => exact ⟨0, Nat.zero_le _, rfl, rfl⟩
  case round =>
    obtain ⟨k, hk, rfl, HN⟩ := hrel
    by_cases hlt : k < xs.length
    · have hltz : (k : Int) < (xs.length : Int) := by omega
      obtain ⟨b, off, es, rfl, hb, hR, hc⟩ := H.out.at hlt
      obtain ⟨A0, c0, A1, c1, rfl, g0, g1⟩ := shape_MarkovRule hR
      have d0 : w.cell? ⟨b, off + k * 3, none⟩ = some (.slice A0 xs[k].1.length c0) := hc 0 _ rfl
      have d1 : w.cell? ⟨b, off + k * 3 + 1, none⟩ = some (.slice A1 xs[k].2.1.length c1) := hc 1 _ rfl
      clear hc hR
      have hl0 := g0.len
      have HG0 := Lib.hid (spec_l03Is _ _ _ w g0); clear g0
      have HG1 := Lib.hid (spec_l03Is _ _ _ w g1); clear g1
      have HT : Hid (markovBad xs[k] = true → xs.any markovBad = true) := fun e => any_hit hlt e
      have HS : Hid (markovBad xs[k] = false → (xs.take (k + 1)).any markovBad = false) := fun e => any_step hlt HN.out e
      generalize xs[k] = y at d0 d1 HT HS HG0 HG1 hl0
      cases q0 : isWord y.1
      · have HF := Lib.hid (HT.out (by unfold markovBad; rw [q0]; rfl))
        go_wp2_with fail
        refine HG0.out.mono ?_
        rintro e w' ⟨rfl, rfl⟩
        rw [q0]
        go_wp2
        go_ret
        exact ⟨by rw [HF.out]; rfl, rfl⟩
      cases q1 : isWord y.2.1
      · have HF := Lib.hid (HT.out (by unfold markovBad; rw [q0, q1]; rfl))
        go_wp2_with fail
        refine HG0.out.mono ?_
        rintro e w' ⟨rfl, rfl⟩
        rw [q0]
        go_wp2_with fail
        refine HG1.out.mono ?_
        rintro e w' ⟨rfl, rfl⟩
        rw [q1]
        go_wp2
        go_ret
        exact ⟨by rw [HF.out]; rfl, rfl⟩
      · have HF := Lib.hid (HS.out (by unfold markovBad; rw [q0, q1]; rfl))
        go_wp2_with fail
        refine HG0.out.mono ?_
        rintro e w' ⟨rfl, rfl⟩
        rw [q0]
        go_wp2_with fail
        refine HG1.out.mono ?_
        rintro e w' ⟨rfl, rfl⟩
        rw [q1]
        go_wp2
        go_round
        case rel => exact ⟨k + 1, by omega, by go_num, HF.out⟩
        case measure => simp [intOf]; omega
    · have hltz : ¬ (k : Int) < (xs.length : Int) := by omega
      obtain rfl : k = xs.length := by omega
      go_wp2
      go_ret
      have hn := HN.out
      rw [List.take_length] at hn
      exact ⟨ret_bool (by rw [hn]; rfl), rfl⟩

theorem spec_ValidMarkov (A : Option Addr) (c : Nat) (xs : List tMarkovRule) (w : World) (h : Sl eMarkovRule w (Old w) A c xs) :
    Calls Try.prog 47 #[.slice A xs.length c] w fun e w' => e = .returned (.bool (validMarkov xs)) ∧ Below w.heap.size w w' := by
  have hI := Lib.hid (spec_l10Markov A c xs w h); clear h
  go_enter Try.func47, Try.ntmps47
  go_wp2_with (go_at_call 109; refine hI.out.mono ?_; rintro e w' ⟨rfl, rfl⟩)
  go_ret
  exact ⟨rfl, Below.refl _ _⟩

set_option maxHeartbeats 1000000 in
theorem law_ValidMarkov (A0 : Option Addr) (c0 : Nat) (a0 : (List tMarkovRule)) (w : World) (h0 : Sl eMarkovRule w (Old w) A0 c0 a0) :
    Calls Try.prog 10 #[.slice A0 a0.length c0] w fun e w' => e = .returned (.bool true) ∧ Below w.heap.size w w' := by
  have hlen0 := h0.len
  have H0 := Lib.hid h0; clear h0
  by_cases t0 : (1048576 : Int) - (cost_SMarkovRule a0 : Nat) < 0
  · go_enter Try.func10, Try.ntmps10
    go_wp2_with fail
    refine (sz_MarkovRuleS _ _ a0 _ _ (by exact H0.out) (by omega) (by omega)).mono ?_
    rintro e z0 ⟨rfl, hb⟩
    rw [left_neg (by omega)]
    have HZ0 := Lib.hid hb; clear hb
    go_wp2
    go_ret
    exact ⟨rfl, HZ0.out⟩
  have HC0 : Hid (cost_SMarkovRule a0 ≤ 1048576) := by show _ ≤ _; omega
  go_enter Try.func10, Try.ntmps10
  go_wp2_with fail
  refine (sz_MarkovRuleS _ _ a0 _ _ (by exact H0.out) (by omega) (by omega)).mono ?_
  rintro e z0 ⟨rfl, hb⟩
  rw [left_pos (by omega)]
  have HZ0 := Lib.hid hb; clear hb
  go_wp2_with fail
  refine (to_MarkovRuleS _ _ a0 _ (by exact H0.out.on HZ0.out) HC0.out).mono ?_
  rintro e ws0 ⟨As0, cs0, rfl, hs, hb⟩
  have HSs0 := Lib.hid hs; clear hs
  have HBs0 := Lib.hid (below_trans HZ0.out hb)
  clear hb
  go_wp2_with fail
  refine (spec_ValidMarkov _ _ a0 _ (by exact HSs0.out.old)).mono ?_
  rintro e v0 ⟨rfl, hb⟩
  have HBv := Lib.hid (below_trans HBs0.out hb); clear hb
  go_wp2_with fail
  refine (to_MarkovRuleS _ _ a0 _ (by exact H0.out.on HBv.out) HC0.out).mono ?_
  rintro e wx0 ⟨Ax0, cx0, rfl, hs, hb⟩
  have HSx0 := Lib.hid hs; clear hs
  have HBx0 := Lib.hid (below_trans HBv.out hb)
  clear hb
  go_wp2_with fail
  refine (impl_ValidMarkov _ _ a0 _ (by exact HSx0.out.old)).mono ?_
  rintro e v1 ⟨rfl, hb⟩
  have HBg := Lib.hid (below_trans HBx0.out hb)
  have HSx02 := Lib.hid (So.oon HSx0.out hb); clear HSx0; have HSx0 := HSx02; clear HSx02
  clear hb
  go_wp2_with fail
  refine (to_MarkovRuleS _ _ a0 _ (by exact H0.out.on HBg.out) HC0.out).mono ?_
  rintro e wy0 ⟨Ay0, cy0, rfl, hs, hb⟩
  have HSy0 := Lib.hid hs; clear hs
  have HBy0 := Lib.hid (below_trans HBg.out hb)
  have HSx02 := Lib.hid (So.oon HSx0.out hb); clear HSx0; have HSx0 := HSx02; clear HSx02
  clear hb
  go_wp2_with fail
  refine (eq_SMarkovRule_c _ _ _ _ a0 a0 _ (by exact HSx0.out.old) (by exact HSy0.out.old)).mono ?_
  rintro e u0 ⟨rfl, hb⟩
  rw [eq_SMarkovRule_refl]
  have HBu0 := Lib.hid (below_trans HBy0.out hb)
  clear hb
  go_wp2
  go_ret
  exact ⟨rfl, HBu0.out⟩

end Go.Proofs.Ytlnakbbngidogaa
