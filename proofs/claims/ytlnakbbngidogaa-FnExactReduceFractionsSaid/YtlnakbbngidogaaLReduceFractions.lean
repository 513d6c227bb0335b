/- What the proof of FnExactReduceFractions needs: contracts of the functions that it reaches, each once. -/
import Derived.Test.YtlnakbbngidogaaProg
import Derived.Test.YtlnakbbngidogaaQMem
import Derived.WalkKit
import Derived.WalkSpells
import Derived.Below
import Derived.LoopTactic
import Derived.Outline
import Derived.Deep.QuietTactic
import Derived.BigQuiet
import Derived.Deep.LoopGhost
import Derived.Handy
import Derived.Lib.Hide
import Derived.Shelf.Abstract
import Derived.StillTailTactics
import Derived.OwnWalk
import Derived.Maps.AppendAt
import Derived.RegionTactic
import Derived.Deep.RegionHeld3
namespace Go.Proofs.Ytlnakbbngidogaa
open Go.RowKit

abbrev tFraction : Type := Int × Int

abbrev eFraction : Enc tFraction := (ePr eInt eInt)

theorem shape_Fraction {w : World} {S : Nat → Prop} {es : List Value} {x : tFraction} (h : eFraction.R w S es x) : es = [.int .i64 x.1, .int .i64 x.2] ∧ I64 x.1 ∧ I64 x.2 := by
  obtain ⟨_, _, rfl, ⟨rfl, h0⟩, ⟨rfl, h1⟩⟩ := h
  exact ⟨rfl, h0, h1⟩

theorem any_hit {α : Type} {p : α → Bool} {xs : List α} {k : Nat} (hk : k < xs.length) (h : p xs[k] = true) : xs.any p = true :=
  List.any_eq_true.2 ⟨_, List.getElem_mem hk, h⟩

theorem any_step {α : Type} {p : α → Bool} {xs : List α} {k : Nat} (hk : k < xs.length) (h0 : (xs.take k).any p = false) (h : p xs[k] = false) : (xs.take (k + 1)).any p = false := by
  rw [List.take_succ_eq_append_getElem hk, List.any_append, h0]; simp [h]

/-- Equality of two lists, element by element. -/
def eqL {α : Type} (p : α → α → Bool) : List α → List α → Bool
  | [], [] => true
  | x :: xs, y :: ys => p x y && eqL p xs ys
  | _, _ => false

theorem eqL_refl {α : Type} {p : α → α → Bool} (hp : ∀ x, p x x = true) : ∀ xs : List α, eqL p xs xs = true
  | [] => rfl
  | x :: xs => by rw [eqL, hp, eqL_refl hp xs]; rfl

theorem eqL_len {α : Type} {p : α → α → Bool} : ∀ (xs ys : List α), xs.length ≠ ys.length → eqL p xs ys = false
  | [], [], h => absurd rfl h
  | [], _ :: _, _ => rfl
  | _ :: _, [], _ => rfl
  | x :: xs, y :: ys, h => by rw [eqL, eqL_len xs ys (by simpa using h)]; simp

theorem eqL_get {α : Type} {p : α → α → Bool} : ∀ (xs ys : List α) (k : Nat) (h1 : k < xs.length) (h2 : k < ys.length), p xs[k] ys[k] = false → eqL p xs ys = false
  | x :: xs, y :: ys, 0, _, _, h => by rw [eqL]; simp at h; rw [h]; rfl
  | x :: xs, y :: ys, k + 1, h1, h2, h => by rw [eqL, eqL_get xs ys k (by simpa using h1) (by simpa using h2) (by simpa using h)]; simp

theorem eqL_all {α : Type} {p : α → α → Bool} : ∀ (xs ys : List α), xs.length = ys.length → (∀ k (h1 : k < xs.length) (h2 : k < ys.length), p xs[k] ys[k] = true) → eqL p xs ys = true
  | [], [], _, _ => rfl
  | x :: xs, y :: ys, hl, h => by
    have e : p x y = true := h 0 (Nat.zero_lt_succ _) (Nat.zero_lt_succ _)
    have e' : eqL p xs ys = true := eqL_all xs ys (by simpa using hl) fun k h1 h2 => h (k + 1) (Nat.succ_lt_succ h1) (Nat.succ_lt_succ h2)
    rw [eqL, e, e']; rfl
  | [], _ :: _, hl, _ => by simp at hl
  | _ :: _, [], hl, _ => by simp at hl

theorem Calls.flip {P : Program} {f : FuncId} {args : Array Value} {w : World} {v : Value} (h : Calls P f args w fun e w' => e = .returned v ∧ w = w') : Calls P f args w fun e w' => e = .returned v ∧ w' = w :=
  h.mono fun _ _ ⟨he, hw⟩ => ⟨he, hw.symm⟩

theorem ret_int {k : IntKind} {a b : Int} (h : a = b) : Ending.returned (.int k a) = .returned (.int k b) := by rw [h]

def withinB (n lo hi : Int) : Bool := decide (lo ≤ n) && decide (n ≤ hi)

theorem withinB_true {n lo hi : Int} : withinB n lo hi = true ↔ lo ≤ n ∧ n ≤ hi := by
  unfold withinB; simp

theorem impl_within (n lo hi : Int) (w : World) :
    Calls Try.prog 72 #[.int .i64 n, .int .i64 lo, .int .i64 hi] w fun e w' => e = .returned (.bool (withinB n lo hi)) ∧ w = w' := by
  unfold withinB
  by_cases h1 : lo ≤ n
  · go_enter Try.func72, Try.ntmps72
    go_wp2
    go_ret
    exact ⟨by first | (simp; done) | simp [h1], rfl⟩
  · have h2 : decide (lo ≤ n) = false := by simpa using h1
    go_enter Try.func72, Try.ntmps72
    go_wp2
    go_ret
    exact ⟨by first | (simp; done) | simp [h2], rfl⟩

theorem spec_l00In (n lo hi : Int) (w : World) :
    Calls Try.prog 119 #[.int .i64 n, .int .i64 lo, .int .i64 hi] w fun e w' => e = .returned (.bool (withinB n lo hi)) ∧ w = w' := by
  unfold withinB
  by_cases h1 : lo ≤ n
  · go_enter Try.func119, Try.ntmps119
    go_wp2
    go_ret
    exact ⟨by first | (simp; done) | simp [h1], rfl⟩
  · have h2 : decide (lo ≤ n) = false := by simpa using h1
    go_enter Try.func119, Try.ntmps119
    go_wp2
    go_ret
    exact ⟨by first | (simp; done) | simp [h2], rfl⟩

theorem impl_size_Fraction (a : Option Addr) (n c : Nat) (w : World) :
    Calls Try.prog 73 #[.slice a n c] w fun e w' => e = .returned (.int .i64 n) ∧ w = w' := by
  go_enter Try.func73, Try.ntmps73
  go_wp2
  go_ret
  exact ⟨rfl, rfl⟩

set_option maxHeartbeats 400000 in
theorem IndexFunc_Fraction (p : tFraction → Bool) (g : Nat) (lb : Array Value) (A : Option Addr) (c : Nat) (xs : List tFraction) (w : World) (h : Sl eFraction w (Old w) A c xs)
    (eg : ∀ args w, (callFunc g args).run Try.prog w = .ok (.enter g args) w) (hp : ∀ W x es, x ∈ xs → Below w.heap.size w W → eFraction.R W (Old W) es x → Calls Try.prog g (#[.agg es.toArray] ++ lb) W fun e w' => e = .returned (.bool (p x)) ∧ Below W.heap.size W w') :
    Calls Try.prog 134 #[.slice A xs.length c, .func (.func g) #[] lb] w fun e w' => (∃ r : Int, e = .returned (.int .i64 r) ∧ decide (0 ≤ r) = xs.any p) ∧ Below w.heap.size w w' := by
  have hlen := h.len
  have H := Lib.hid h; clear h
  have HP := Lib.hid hp; clear hp
  go_enter Try.func134, Try.ntmps134
  go_wp2
  go_loopg [5, 8] xs.length (fun gg _ s8 wr => ∃ k : Nat, k ≤ xs.length ∧ xs.length - k ≤ gg ∧ s8 = .int .i64 k ∧ Hid (Below w.heap.size w wr) ∧ Hid ((xs.take k).any p = false))
  case atStart => exact ⟨0, Nat.zero_le _, by omega, rfl, Below.refl _ w, rfl⟩
  case round =>
    obtain ⟨k, hk, hg, rfl, BW, HN⟩ := hrel
    by_cases hlt : k < xs.length
    · have hltz : (k : Int) < (xs.length : Int) := by omega
      obtain ⟨b, off, es, rfl, hb, hR, hc⟩ := H.out.at hlt
      have hcall := HP.out wr xs[k] _ (List.getElem_mem hlt) BW.out (eFraction.on hR BW.out)
      obtain ⟨rfl, gq0, gq1⟩ := shape_Fraction hR
      have d0 : wr.cell? ⟨b, off + k * 2, none⟩ = some (.int .i64 xs[k].1) := (below_olds BW.out _ hb).trans (hc 0 _ rfl)
      have d1 : wr.cell? ⟨b, off + k * 2 + 1, none⟩ = some (.int .i64 xs[k].2) := (below_olds BW.out _ hb).trans (hc 1 _ rfl)
      clear hc gq0 gq1
      try clear hR
      have HQ1 : Hid (p xs[k] = true → xs.any p = true) := any_hit hlt
      have HQ0 : Hid (p xs[k] = false → (xs.take (k + 1)).any p = false) := any_step hlt HN.out
      generalize xs[k] = y at d0 d1 hcall HQ1 HQ0
      cases hq : p y with
      | true =>
        rw [hq] at hcall
        have HQ := Lib.hid (HQ1.out hq); clear hq HQ1 HQ0
        go_wp2_with (go_at_fn g; refine hcall.mono ?_; rintro e w' ⟨rfl, hb'⟩)
        go_ret
        exact ⟨⟨k, rfl, by rw [HQ.out]; simp⟩, below_trans BW.out hb'⟩
      | false =>
        rw [hq] at hcall
        have HQ := Lib.hid (HQ0.out hq); clear hq HQ1 HQ0
        go_wp2_with (go_at_fn g; refine hcall.mono ?_; rintro e w' ⟨rfl, hb'⟩)
        go_roundg (xs.length - (k + 1))
        case measure => omega
        case rel => exact ⟨k + 1, by omega, by omega, by go_num, below_trans BW.out hb', HQ.out⟩
    · have hltz : ¬ (k : Int) < (xs.length : Int) := by omega
      obtain rfl : k = xs.length := by omega
      go_wp2
      go_ret
      refine ⟨⟨-1, rfl, ?_⟩, BW.out⟩
      have := HN.out
      rw [List.take_length] at this
      rw [this]; rfl

theorem ContainsFunc_Fraction (p : tFraction → Bool) (g : Nat) (lb : Array Value) (A : Option Addr) (c : Nat) (xs : List tFraction) (w : World) (h : Sl eFraction w (Old w) A c xs)
    (eg : ∀ args w, (callFunc g args).run Try.prog w = .ok (.enter g args) w) (hp : ∀ W x es, x ∈ xs → Below w.heap.size w W → eFraction.R W (Old W) es x → Calls Try.prog g (#[.agg es.toArray] ++ lb) W fun e w' => e = .returned (.bool (p x)) ∧ Below W.heap.size W w') :
    Calls Try.prog 74 #[.slice A xs.length c, .func (.func g) #[] lb] w fun e w' => e = .returned (.bool (xs.any p)) ∧ Below w.heap.size w w' := by
  have hI := Lib.hid (IndexFunc_Fraction p g lb A c xs w h eg hp); clear h hp eg
  go_enter Try.func74, Try.ntmps74
  go_wp2_with (go_at_call 134; refine hI.out.mono ?_; rintro e w' ⟨⟨r, rfl, hr⟩, hb⟩; have HR := Lib.hid hr; clear hr)
  go_ret
  exact ⟨by rw [← HR.out]; rfl, hb⟩

theorem costL_take {α : Type} (f : α → Nat) (xs : List α) (k : Nat) (h : k < xs.length) : ((xs.take (k + 1)).map f).sum = ((xs.take k).map f).sum + f xs[k] := by
  rw [List.take_succ_eq_append_getElem h, List.map_append, List.sum_append]; simp only [List.map_cons, List.map_nil, List.sum_cons, List.sum_nil, Nat.add_zero]

theorem cost_le {α : Type} (f : α → Nat) (xs : List α) (k : Nat) : ((xs.take k).map f).sum ≤ (xs.map f).sum := by
  have h : (xs.map f).sum = ((xs.take k).map f).sum + ((xs.drop k).map f).sum := by
    rw [← List.sum_append, ← List.map_append, List.take_append_drop]
  omega

/-- What the size functions of the laws answer. -/
def left (l : Int) (n : Nat) : Int := if l - n < 0 then -1 else l - n

theorem left_neg {l : Int} {n : Nat} (h : l - n < 0) : left l n = -1 := if_pos h

theorem left_pos {l : Int} {n : Nat} (h : ¬ l - n < 0) : left l n = l - n := if_neg h

def cost_SFraction (xs : List tFraction) : Nat := xs.length

theorem sz_FractionS (A : Option Addr) (c : Nat) (xs : List tFraction) (l : Int) (w : World) (h : Sl eFraction w (Old w) A c xs) (h0 : 0 ≤ l) (h1 : l ≤ 1048576) :
    Calls Try.prog 15 #[.slice A xs.length c, .int .i64 l] w fun e w' => e = .returned (.int .i64 (left l (cost_SFraction xs))) ∧ Below w.heap.size w w' := by
  have hlen := h.len
  clear h
  unfold cost_SFraction
  by_cases hl : l - xs.length < 0
  · rw [left_neg hl]
    go_enter Try.func15, Try.ntmps15
    go_wp2
    go_ret
    exact ⟨rfl, Below.refl _ _⟩
  · rw [left_pos hl]
    go_enter Try.func15, Try.ntmps15
    go_wp2
    go_ret
    exact ⟨rfl, Below.refl _ _⟩

def eq_i (x y : Int) : Bool := x == y

theorem eq_i_refl (x : Int) : eq_i x x = true := by simp [eq_i]

def eq_Fraction (x y : tFraction) : Bool := eq_i x.1 y.1 && eq_i x.2 y.2

theorem eq_Fraction_refl (x : tFraction) : eq_Fraction x x = true := by unfold eq_Fraction; simp [eq_i_refl]

def eq_SFraction (x y : List tFraction) : Bool := eqL eq_Fraction x y

theorem eq_SFraction_refl (x : List tFraction) : eq_SFraction x x = true := eqL_refl eq_Fraction_refl x

set_option maxHeartbeats 1000000 in
theorem eq_Fraction_c (es es' : List Value) (x y : tFraction) (w : World) (h : eFraction.R w (Old w) es x) (h' : eFraction.R w (Old w) es' y) :
    Calls Try.prog 76 #[.agg es.toArray, .agg es'.toArray] w fun e w' => e = .returned (.bool (eq_Fraction x y)) ∧ Below w.heap.size w w' := by
  obtain ⟨rfl, gx0, gx1⟩ := shape_Fraction h
  obtain ⟨rfl, gy0, gy1⟩ := shape_Fraction h'
  have HB0 := Lib.hid (((Below.refl w.heap.size w).alloc (Nat.le_refl _) (.cells #[.int .i64 x.1, .int .i64 x.2] 101)).alloc (by simp) (.cells #[.int .i64 y.1, .int .i64 y.2] 101))
  clear gx0 gy0 gx1 gy1
  cases t0 : eq_i x.1 y.1
  · rw [show eq_Fraction x y = false from by unfold eq_Fraction; simp [t0]]
    have t0' : (x.1 != y.1) = true := by simp only [eq_i] at t0; simp [bne, t0]
    go_enter Try.func76, Try.ntmps76
    go_wp2
    go_ret
    exact ⟨rfl, HB0.out⟩
  have t0' : (x.1 != y.1) = false := by simp only [eq_i] at t0; simp [bne, t0]
  cases t1 : eq_i x.2 y.2
  · rw [show eq_Fraction x y = false from by unfold eq_Fraction; simp [t0, t1]]
    have t1' : (x.2 != y.2) = true := by simp only [eq_i] at t1; simp [bne, t1]
    go_enter Try.func76, Try.ntmps76
    go_wp2
    go_ret
    exact ⟨rfl, HB0.out⟩
  have t1' : (x.2 != y.2) = false := by simp only [eq_i] at t1; simp [bne, t1]
  rw [show eq_Fraction x y = true from by unfold eq_Fraction; simp [t0, t1]]
  go_enter Try.func76, Try.ntmps76
  go_wp2
  go_ret
  exact ⟨rfl, HB0.out⟩

set_option maxRecDepth 100000 in
set_option maxHeartbeats 1000000 in
theorem eq_SFraction_c (A A' : Option Addr) (c c' : Nat) (xs ys : List tFraction) (w : World) (h : Sl eFraction w (Old w) A c xs) (h' : Sl eFraction w (Old w) A' c' ys) :
    Calls Try.prog 19 #[.slice A xs.length c, .slice A' ys.length c'] w fun e w' => e = .returned (.bool (eq_SFraction xs ys)) ∧ Below w.heap.size w w' := by
  have hlen := h.len
  have hlen' := h'.len
  unfold eq_SFraction
  by_cases hne : xs.length = ys.length
  · have hne' : ((xs.length : Int) != (ys.length : Int)) = false := by simp [hne]
    have HE := Lib.hid hne; clear hne
    have H := Lib.hid h; clear h
    have H' := Lib.hid h'; clear h'
    go_enter Try.func19, Try.ntmps19
    go_wp2
    clear hne'
    go_loopw [5] (fun s5 wr => ∃ k : Nat, k ≤ xs.length ∧ s5 = .int .i64 k ∧ Hid (Below w.heap.size w wr) ∧ Hid (∀ j (h1 : j < xs.length) (h2 : j < ys.length), j < k → eq_Fraction xs[j] ys[j] = true)) (fun s5 _ => xs.length - (intOf s5).toNat)
    case atStart => exact ⟨0, Nat.zero_le _, rfl, Below.refl _ _, fun j _ _ h => absurd h (Nat.not_lt_zero _)⟩
    case round =>
      obtain ⟨k, hk, rfl, HL, HN⟩ := hrel
      by_cases hlt : k < xs.length
      · have hltz : (k : Int) < (xs.length : Int) := by omega
        have hlt' : k < ys.length := by have := HE.out; omega
        have hltz' : (k : Int) < (ys.length : Int) := by omega
        obtain ⟨bp, offp, esp, rfl, hbp, hR, hc⟩ := H.out.at hlt
        have HRp := Lib.hid (eFraction.on hR HL.out)
        obtain ⟨rfl, gp0, gp1⟩ := shape_Fraction hR
        have dp0 : wr.cell? ⟨bp, offp + k * 2, none⟩ = some (.int .i64 xs[k].1) := (below_olds HL.out _ hbp).trans (hc 0 _ rfl)
        have dp1 : wr.cell? ⟨bp, offp + k * 2 + 1, none⟩ = some (.int .i64 xs[k].2) := (below_olds HL.out _ hbp).trans (hc 1 _ rfl)
        clear hc gp0 gp1
        try clear hR
        obtain ⟨bq, offq, esq, rfl, hbq, hR, hc⟩ := H'.out.at hlt'
        have HRq := Lib.hid (eFraction.on hR HL.out)
        obtain ⟨rfl, gq0, gq1⟩ := shape_Fraction hR
        have dq0 : wr.cell? ⟨bq, offq + k * 2, none⟩ = some (.int .i64 ys[k].1) := (below_olds HL.out _ hbq).trans (hc 0 _ rfl)
        have dq1 : wr.cell? ⟨bq, offq + k * 2 + 1, none⟩ = some (.int .i64 ys[k].2) := (below_olds HL.out _ hbq).trans (hc 1 _ rfl)
        clear hc gq0 gq1
        try clear hR
        have HQ0 : Hid (eq_Fraction xs[k] ys[k] = false → eqL eq_Fraction xs ys = false) := eqL_get xs ys k hlt hlt'
        have HQ1 : Hid (eq_Fraction xs[k] ys[k] = true → ∀ j (h1 : j < xs.length) (h2 : j < ys.length), j < k + 1 → eq_Fraction xs[j] ys[j] = true) := fun e j h1 h2 hj => by
          by_cases ej : j = k
          · subst ej; exact e
          · exact HN.out j h1 h2 (by omega)
        generalize xs[k] = x at dp0 dp1 HRp HQ0 HQ1
        generalize ys[k] = y at dq0 dq1 HRq HQ0 HQ1
        go_wp2_with fail
        go_still_tail 8, (by kernel_rfl)
        cases hq : eq_Fraction x y
        · go_wp2_with fail
          refine (eq_Fraction_c _ _ x y _ (eFraction.on HRp.out (Below.refl _ _).drew) (eFraction.on HRq.out (Below.refl _ _).drew)).mono ?_
          rintro e w2 ⟨rfl, hb2⟩
          rw [hq]
          go_wp2
          go_ret
          exact ⟨by rw [HQ0.out hq]; rfl, HL.out.drew.trans (hb2.mono HL.out.size)⟩
        · go_wp2_with fail
          refine (eq_Fraction_c _ _ x y _ (eFraction.on HRp.out (Below.refl _ _).drew) (eFraction.on HRq.out (Below.refl _ _).drew)).mono ?_
          rintro e w2 ⟨rfl, hb2⟩
          rw [hq]
          go_wp2
          go_roundw
          case rel => exact ⟨k + 1, by omega, by go_num, HL.out.drew.trans (hb2.mono HL.out.size), HQ1.out hq⟩
          case measure => simp [intOf]; omega
      · have hltz : ¬ (k : Int) < (xs.length : Int) := by omega
        obtain rfl : k = xs.length := by omega
        go_wp2
        go_ret
        exact ⟨by rw [eqL_all xs ys HE.out fun j h1 h2 => HN.out j h1 h2 h1]; rfl, HL.out⟩
  · have hne' : ((xs.length : Int) != (ys.length : Int)) = true := by simp; omega
    rw [eqL_len xs ys hne]
    clear h h' hne
    go_enter Try.func19, Try.ntmps19
    go_wp2
    go_ret
    exact ⟨rfl, Below.refl _ _⟩

theorem info_impl_Fraction : (Try.prog.info? 101).map (fun i => (i.zero, i.size, i.bytes)) = some (some (.agg #[.int .i64 0, .int .i64 0]), 2, 16) := by kernel_rfl

theorem to_Fraction (es : List Value) (x : tFraction) (w : World) (h : eFraction.R w (Old w) es x) :
    Calls Try.prog 71 #[.agg es.toArray] w fun e w' => ∃ es', e = .returned (.agg es'.toArray) ∧ eFraction.O w' (Fr w w') es' x ∧ Below w.heap.size w w' := by
  obtain ⟨rfl, g0, g1⟩ := shape_Fraction h
  go_enter Try.func71, Try.ntmps71
  go_wp2
  go_returns
  exact ⟨[.int .i64 x.1, .int .i64 x.2], rfl, (oPrI g0 (oI g1)), by go_grown⟩

set_option maxHeartbeats 1000000 in
theorem to_FractionS (A : Option Addr) (c : Nat) (xs : List tFraction) (w : World) (h : Sl eFraction w (Old w) A c xs) (hsm : cost_SFraction xs ≤ 1048576) :
    Calls Try.prog 17 #[.slice A xs.length c] w fun e w' => ∃ A' c', e = .returned (.slice A' xs.length c') ∧ So eFraction w' (Fr w w') A' c' xs ∧ Below w.heap.size w w' := by
  obtain ⟨i0, hi0, hz0, hz1, hz2⟩ := info_parts info_impl_Fraction
  have hlen := h.len
  have hsl : xs.length ≤ 1048576 := by exact hsm
  have HCO := Lib.hid hsm; clear hsm
  have H := Lib.hid h; clear h
  go_enter Try.func17, Try.ntmps17
  go_wp2_with (at_make; refine wpList_make_full _ rfl _ _ 25 rfl w.heap.size 101 i0 _ 2 Try.underlying25 hi0 hz0 hz1 _ _ _ _ xs.length rfl rfl rfl rfl (by rw [hz2]; omega) (by unfold maxLen; omega) (Nat.le_refl _) ?_)
  intro w1 hown hgrow
  obtain ⟨cur, hB, hs, ht, hn1, hn2⟩ := Blk.of_own hown
  have HB := Lib.hid hB; clear hB
  have HS : Hid (cur.size = xs.length * 2) := by show _ = _; omega
  have hbel : Below w.heap.size w w1 := (Below.refl _ _).grown hgrow (Nat.le_refl _) (by simp)
  have HL := Lib.hid hbel; clear hbel
  clear hs ht hn1 hn2 hgrow hown hi0 hz0 hz1 hz2
  go_wp2_with fail
  go_loopw [4] (fun s4 wr => ∃ (k : Nat) (cur : Array Value), k ≤ xs.length ∧ s4 = .int .i64 k ∧ Hid (Below w.heap.size w wr) ∧ Hid (Blk wr w.heap.size 101 cur) ∧ Hid (cur.size = xs.length * 2) ∧ Hid (Filled eFraction wr w.heap.size (fun b => w.heap.size ≤ b) cur k xs)) (fun s4 _ => xs.length - (intOf s4).toNat)
  case atStart => exact ⟨0, cur, Nat.zero_le _, rfl, HL, HB, HS, Filled.zero⟩
  case round =>
    clear HB HS HL
    obtain ⟨k, cur, hk, rfl, HL, HB, HS, HF⟩ := hrel
    by_cases hlt : k < xs.length
    · have hltz : (k : Int) < (xs.length : Int) := by omega
      obtain ⟨b, off, es, rfl, hb, hR, hc⟩ := H.out.at hlt
      have HX : Hid (xs[k]? = some xs[k]) := List.getElem?_eq_getElem hlt
      have HR := Lib.hid (eFraction.on hR HL.out)
      obtain ⟨rfl, gq0, gq1⟩ := shape_Fraction hR
      have d0 : wr.cell? ⟨b, off + k * 2, none⟩ = some (.int .i64 xs[k].1) := (below_olds HL.out _ hb).trans (hc 0 _ rfl)
      have d1 : wr.cell? ⟨b, off + k * 2 + 1, none⟩ = some (.int .i64 xs[k].2) := (below_olds HL.out _ hb).trans (hc 1 _ rfl)
      clear hc gq0 gq1
      try clear hR
      obtain ⟨v0, hv0⟩ : ∃ v, cur[k * 2]? = some v := get_some (by have := HS.out; omega)
      obtain ⟨v1, hv1⟩ : ∃ v, cur[k * 2 + 1]? = some v := get_some (by have := HS.out; omega)
      have HV0 := Lib.hid hv0; clear hv0
      have HV1 := Lib.hid hv1; clear hv1
      generalize xs[k] = y at d0 d1 HX HR
      go_wp2_with fail
      refine (to_Fraction _ y _ HR.out).mono ?_
      rintro e w2 ⟨es2, rfl, ho2, hb2⟩
      have hR2 := eFraction.read ho2
      have HO2 := Lib.hid ho2; clear ho2
      obtain ⟨rfl, gr0, gr1⟩ := shape_Fraction hR2
      clear gr0 gr1
      try clear hR2
      have hB2 := HB.out.on hb2
      have e0 : w2.cell? ⟨w.heap.size, k * 2, none⟩ = some v0 := (hB2.cell _).trans HV0.out
      have e1 : w2.cell? ⟨w.heap.size, k * 2 + 1, none⟩ = some v1 := (hB2.cell _).trans HV1.out
      have f0 := hB2.frozen (k * 2)
      have f1 := hB2.frozen (k * 2 + 1)
      have HB2 := Lib.hid hB2; clear hB2
      have HL2 := Lib.hid hb2; clear hb2
      go_wp2
      go_roundw
      case rel =>
        have hL := HL.out
        have hL2 := HL2.out
        have hbs : ∀ b, b ≠ w.heap.size → ∀ W : World, (∀ b, b ≠ w.heap.size → W.heap[b]? = w2.heap[b]?) → W.heap[b]? = w2.heap[b]? := fun b hb W h => h b hb
        have hW : ∀ b, b ≠ w.heap.size → ((w2.setCell ⟨w.heap.size, k * 2, none⟩ (.int .i64 y.1)).setCell ⟨w.heap.size, k * 2 + 1, none⟩ (.int .i64 y.2)).heap[b]? = w2.heap[b]? := fun b hb => by
          rw [Below.heap_setCell _ _ _ _ (by exact hb), Below.heap_setCell _ _ _ _ (by exact hb)]
        have hsz : ((w2.setCell ⟨w.heap.size, k * 2, none⟩ (.int .i64 y.1)).setCell ⟨w.heap.size, k * 2 + 1, none⟩ (.int .i64 y.2)).heap.size = w2.heap.size := by simp [World.setCell]
        refine ⟨k + 1, setAll cur (k * 2) [.int .i64 y.1, .int .i64 y.2], by omega, by go_num, (((hL.trans (hL2.mono hL.size)).setCell (Nat.le_refl _) _).setCell (Nat.le_refl _) _), ((HB2.out.set _ _).set _ _), (size_setAll _ _ _).trans HS.out, ?_⟩
        have hstep := (HF.out).step (w' := (w2.setCell ⟨w.heap.size, k * 2, none⟩ (.int .i64 y.1)).setCell ⟨w.heap.size, k * 2 + 1, none⟩ (.int .i64 y.2)) (T0 := Fr wr w2) (es := [.int .i64 y.1, .int .i64 y.2]) (fun b hb hlt => (hW b hb).trans (hL2.block b hlt)) (by rw [hsz]; exact hL2.size) HX.out
          (eFraction.okeep HO2.out fun b hb => hW b (fun e => by have := HB.out.lt; have := hb.1; omega)) (fun b hb => ⟨Nat.le_trans hL.size hb.1, fun e => by have := HB.out.lt; have := hb.1; omega, hb.1, by rw [hsz]; exact hb.2⟩) (by have := HS.out; show (k + 1) * 2 ≤ _; omega)
        exact hstep
      case measure => simp [intOf]; omega
    · have hltz : ¬ (k : Int) < (xs.length : Int) := by omega
      obtain rfl : k = xs.length := by omega
      go_wp2
      go_ret
      exact ⟨_, _, rfl, HF.out.soFr HB.out (Nat.le_refl _) (by unfold maxLen; omega), HL.out⟩

theorem i64_small {x : Int} (h0 : 0 ≤ x) (h1 : x ≤ 1000000000000) : I64 x := ⟨by omega, by omega⟩

/-- How many numbers a list of elements takes. -/
def cntL {α : Type} (c : α → Nat) (xs : List α) : Nat := (xs.map c).sum

/-- The elements marked one after another from k on. -/
def mkL {α : Type} (f : α → Int → α) (c : α → Nat) : List α → Int → List α
  | [], _ => []
  | x :: xs, k => f x k :: mkL f c xs (k + c x)

theorem mkL_len {α : Type} (f : α → Int → α) (c : α → Nat) : ∀ (xs : List α) (k : Int), (mkL f c xs k).length = xs.length
  | [], _ => rfl
  | x :: xs, k => by rw [mkL, List.length_cons, mkL_len f c xs, List.length_cons]

theorem mkL_append {α : Type} (f : α → Int → α) (c : α → Nat) : ∀ (xs ys : List α) (k : Int), mkL f c (xs ++ ys) k = mkL f c xs k ++ mkL f c ys (k + cntL c xs)
  | [], ys, k => by simp [mkL, cntL]
  | x :: xs, ys, k => by
    rw [List.cons_append, mkL, mkL, mkL_append f c xs ys, List.cons_append]
    have : k + (c x : Int) + (cntL c xs : Int) = k + (cntL c (x :: xs) : Int) := by unfold cntL; simp only [List.map_cons, List.sum_cons]; omega
    rw [this]

theorem cntL_take {α : Type} (c : α → Nat) (xs : List α) (i : Nat) (h : i < xs.length) : cntL c (xs.take (i + 1)) = cntL c (xs.take i) + c xs[i] := costL_take c xs i h

theorem cntL_le {α : Type} (c : α → Nat) (xs : List α) (i : Nat) : cntL c (xs.take i) ≤ cntL c xs := cost_le c xs i

/-- What a marking loop has made after i rounds. -/
def mkTo {α : Type} (f : α → Int → α) (c : α → Nat) (xs : List α) (k : Int) (i : Nat) : List α := mkL f c (xs.take i) k ++ xs.drop i

theorem mkTo_zero {α : Type} (f : α → Int → α) (c : α → Nat) (xs : List α) (k : Int) : mkTo f c xs k 0 = xs := by simp [mkTo, mkL]

theorem mkTo_len {α : Type} (f : α → Int → α) (c : α → Nat) (xs : List α) (k : Int) (i : Nat) : (mkTo f c xs k i).length = xs.length := by
  unfold mkTo; rw [List.length_append, mkL_len, List.length_take, List.length_drop]; omega

theorem mkTo_end {α : Type} (f : α → Int → α) (c : α → Nat) (xs : List α) (k : Int) : mkTo f c xs k xs.length = mkL f c xs k := by simp [mkTo]

theorem mkTo_step {α : Type} (f : α → Int → α) (c : α → Nat) (xs : List α) (k : Int) (i : Nat) (h : i < xs.length) : (mkTo f c xs k i).set i (f xs[i] (k + cntL c (xs.take i))) = mkTo f c xs k (i + 1) := by
  have hl : (mkL f c (xs.take i) k).length = i := by rw [mkL_len, List.length_take]; omega
  unfold mkTo
  rw [List.take_succ_eq_append_getElem h, mkL_append, List.drop_eq_getElem_cons h, List.set_append_right _ _ (by omega), hl, Nat.sub_self, List.set_cons_zero]
  simp [mkL]

theorem mkL_get {α : Type} (f : α → Int → α) (c : α → Nat) (xs : List α) (k : Int) (i : Nat) (h : i < xs.length) : (mkL f c xs k)[i]? = some (f xs[i] (k + cntL c (xs.take i))) := by
  have h1 : mkL f c xs k = mkL f c (xs.take i) k ++ mkL f c (xs.drop i) (k + cntL c (xs.take i)) := by rw [← mkL_append, List.take_append_drop]
  have hl : (mkL f c (xs.take i) k).length = i := by rw [mkL_len, List.length_take]; omega
  rw [h1, List.getElem?_append_right (by omega), hl, Nat.sub_self, List.drop_eq_getElem_cons h]
  rfl

/-- As an element of a slice: every field is marked. -/
def mk_Fraction (_x : tFraction) (k : Int) : tFraction := (k, k + 1)

def ct_Fraction (_x : tFraction) : Nat := 1 + 1

def mk_SFraction (xs : List tFraction) (k : Int) : List tFraction := mkL mk_Fraction ct_Fraction xs k

def ct_SFraction (xs : List tFraction) : Nat := cntL ct_Fraction xs

set_option maxHeartbeats 1000000 in
theorem mark_SFraction_c (A : Option Addr) (c : Nat) (xs : List tFraction) (k : Int) (w : World) (S : Nat → Prop) (h : So eFraction w S A c xs) (_hS : ∀ b, S b → b < w.heap.size) (hk : 0 ≤ k) (hk' : k + (ct_SFraction xs : Int) ≤ 1000000000000) :
    Calls Try.prog 39 #[.slice A xs.length c, .int .i64 k] w fun e w' => e = .returned (.int .i64 (k + (ct_SFraction xs : Int))) ∧ So eFraction w' S A c (mk_SFraction xs k) ∧ Chg S w w' := by
  have hlen := h.sl.len
  clear _hS
  have H := Lib.hid h; clear h
  have HC : Hid (ct_SFraction xs = cntL ct_Fraction xs) := rfl
  go_enter Try.func39, Try.ntmps39
  go_wp2
  go_loopw [1, 5] (fun s1 s5 wr => ∃ (i : Nat) (q : Int), i ≤ xs.length ∧ s5 = .int .i64 i ∧ s1 = .int .i64 q ∧ 0 ≤ q ∧ q ≤ 1000000000000 ∧ Hid (q = k + (cntL ct_Fraction (xs.take i) : Int)) ∧ Hid (So eFraction wr S A c (mkTo mk_Fraction ct_Fraction xs k i)) ∧ Hid (Chg S w wr)) (fun _ s5 _ => xs.length - (intOf s5).toNat)
  case atStart => exact ⟨0, k, Nat.zero_le _, rfl, rfl, hk, by omega, by show _ = _; simp [cntL], by show So _ _ _ _ _ _; rw [mkTo_zero]; exact H.out, Chg.refl _ _⟩
  case round =>
    obtain ⟨i, q, hi, rfl, rfl, hq0, hq1, HQ, HS, HG⟩ := hrel
    by_cases hlt : i < xs.length
    · have hltz : (i : Int) < (xs.length : Int) := by omega
      have HQ2 : Hid (q + 2 ≤ 1000000000000 ∧ q + 2 = k + (cntL ct_Fraction (xs.take (i + 1)) : Int)) := by
        have h1 := cntL_take ct_Fraction xs i hlt
        have h2 := cntL_le ct_Fraction xs (i + 1)
        have h3 : ct_Fraction xs[i] = 2 := rfl
        have h4 := HQ.out
        have h5 := HC.out
        refine ⟨?_, ?_⟩ <;> omega
      have hq2 := HQ2.out.1
      obtain ⟨b, off, t, cur, T, es, rfl, hSb, hB, hT, hO, hcells, hre⟩ := HS.out.at (k := i) (by rw [mkTo_len]; exact hlt)
      have hel := eFraction.len (eFraction.read hO)
      obtain ⟨v0, hv0⟩ : ∃ v, cur[off + i * 2]? = some v := ⟨_, hcells 0 _ (List.getElem?_eq_getElem (by rw [hel]; decide))⟩
      obtain ⟨v1, hv1⟩ : ∃ v, cur[off + i * 2 + 1]? = some v := ⟨_, hcells 1 _ (List.getElem?_eq_getElem (by rw [hel]; decide))⟩
      have e0 : wr.cell? ⟨b, off + i * 2, none⟩ = some v0 := (hB.cell _).trans hv0
      have f0 := hB.frozen (off + i * 2)
      have e1 : wr.cell? ⟨b, off + i * 2 + 1, none⟩ = some v1 := (hB.cell _).trans hv1
      have f1 := hB.frozen (off + i * 2 + 1)
      clear hv0 hv1
      have HB := Lib.hid hB; clear hB hcells hel
      have HRE : Hid (So eFraction ((wr.setCell ⟨b, off + i * 2, none⟩ (.int .i64 (q))).setCell ⟨b, off + i * 2 + 1, none⟩ (.int .i64 (q + 1))) S (some ⟨b, off, none⟩) c (mkTo mk_Fraction ct_Fraction xs k (i + 1))) := by
        show So _ _ _ _ _ _
        rw [← mkTo_step mk_Fraction ct_Fraction xs k i hlt, ← HQ.out]
        refine hre _ [.int .i64 (q), .int .i64 (q + 1)] _ (oPrI (i64_small (by omega) (by omega)) (oI (i64_small (by omega) (by omega)))) ?_ (fun m hm hne _ => ?_)
        · exact ((HB.out.set _ _).set _ _)
        · rw [Below.heap_setCell _ _ _ _ (by exact hne), Below.heap_setCell _ _ _ _ (by exact hne)]
      clear hre hO hT
      have HG2 : Hid (Chg S w ((wr.setCell ⟨b, off + i * 2, none⟩ (.int .i64 (q))).setCell ⟨b, off + i * 2 + 1, none⟩ (.int .i64 (q + 1)))) := ((HG.out.set (by exact hSb) _).set (by exact hSb) _)
      have HSB := Lib.hid hSb; clear hSb
      go_wp2
      go_roundw
      case rel => exact ⟨i + 1, q + 1 + 1, by omega, by go_num, rfl, by omega, by omega, by show _ = _; have := HQ2.out.2; omega, HRE.out, HG2.out⟩
      case measure => simp [intOf]; omega
    · have hltz : ¬ (i : Int) < (xs.length : Int) := by omega
      obtain rfl : i = xs.length := by omega
      have h2 := HQ.out
      rw [List.take_length] at h2
      have h3 := HS.out
      rw [mkTo_end] at h3
      have H2 := Lib.hid h2; have H3 := Lib.hid h3; clear h2 h3
      go_wp2
      go_ret
      exact ⟨ret_int (by rw [H2.out, HC.out]), H3.out, HG.out⟩

set_option maxHeartbeats 1000000 in
theorem held_SFraction_c (A : Option Addr) (c : Nat) (xs : List tFraction) (k : Int) (w : World) (h : Sl eFraction w (Old w) A c (mk_SFraction xs k)) (hk : 0 ≤ k) (hk' : k + (ct_SFraction xs : Int) ≤ 1000000000000) :
    Calls Try.prog 40 #[.slice A xs.length c, .int .i64 k] w fun e w' => e = .returned (.int .i64 (k + (ct_SFraction xs : Int))) ∧ Below w.heap.size w w' := by
  have hlen := h.len
  have hL : (mk_SFraction xs k).length = xs.length := mkL_len _ _ _ _
  rw [hL] at hlen
  have HLen := Lib.hid hL; clear hL
  have H := Lib.hid h; clear h
  have HC : Hid (ct_SFraction xs = cntL ct_Fraction xs) := rfl
  go_enter Try.func40, Try.ntmps40
  go_wp2
  go_loop [1, 5] (fun s1 s5 => ∃ (i : Nat) (q : Int), i ≤ xs.length ∧ s5 = .int .i64 i ∧ s1 = .int .i64 q ∧ 0 ≤ q ∧ q ≤ 1000000000000 ∧ Hid (q = k + (cntL ct_Fraction (xs.take i) : Int))) (fun _ s5 => xs.length - (intOf s5).toNat)
  case atStart => exact ⟨0, k, Nat.zero_le _, rfl, rfl, hk, by omega, by show _ = _; simp [cntL]⟩
  case round =>
    obtain ⟨i, q, hi, rfl, rfl, hq0, hq1, HQ⟩ := hrel
    by_cases hlt : i < xs.length
    · have hltz : (i : Int) < (xs.length : Int) := by omega
      have HQ2 : Hid (q + 2 ≤ 1000000000000 ∧ q + 2 = k + (cntL ct_Fraction (xs.take (i + 1)) : Int)) := by
        have h1 := cntL_take ct_Fraction xs i hlt
        have h2 := cntL_le ct_Fraction xs (i + 1)
        have h3 : ct_Fraction xs[i] = 2 := rfl
        have h4 := HQ.out
        have h5 := HC.out
        refine ⟨?_, ?_⟩ <;> omega
      have hq2 := HQ2.out.1
      have hlt2 : i < (mk_SFraction xs k).length := by rw [HLen.out]; exact hlt
      have HE : Hid ((mk_SFraction xs k)[i] = mk_Fraction xs[i] q) := by
        have h1 := mkL_get mk_Fraction ct_Fraction xs k i hlt
        rw [← HQ.out] at h1
        exact Option.some.inj ((List.getElem?_eq_getElem hlt2).symm.trans h1)
      obtain ⟨b, off, es, rfl, hb, hR, hc⟩ := H.out.at hlt2
      rw [HE.out] at hR
      obtain ⟨rfl, gq0, gq1⟩ := shape_Fraction hR
      have d0 : w.cell? ⟨b, off + i * 2, none⟩ = some (.int .i64 (q)) := hc 0 _ rfl
      have d1 : w.cell? ⟨b, off + i * 2 + 1, none⟩ = some (.int .i64 (q + 1)) := hc 1 _ rfl
      have t0 : (q != q) = false := by simp
      have t1 : (q + 1 != q + 1) = false := by simp
      clear hc gq0 gq1
      try clear hR
      go_wp2
      go_round
      case rel => exact ⟨i + 1, q + 1 + 1, by omega, by go_num, rfl, by omega, by omega, by show _ = _; have := HQ2.out.2; omega⟩
      case measure => simp [intOf]; omega
    · have hltz : ¬ (i : Int) < (xs.length : Int) := by omega
      obtain rfl : i = xs.length := by omega
      have h2 := HQ.out
      rw [List.take_length] at h2
      have H2 := Lib.hid h2; clear h2
      go_wp2
      go_ret
      exact ⟨ret_int (by rw [H2.out, HC.out]), Below.refl _ _⟩

theorem cntL_const {α : Type} (c : α → Nat) (n : Nat) (xs : List α) (h : ∀ x, c x = n) : cntL c xs = n * xs.length := by
  unfold cntL
  induction xs with
  | nil => simp
  | cons x xs ih => rw [List.map_cons, List.sum_cons, ih, h, List.length_cons, Nat.mul_succ]; omega

theorem ct_cost_SFraction (xs : List tFraction) : ct_SFraction xs ≤ 4 * cost_SFraction xs := by
  have := cntL_const ct_Fraction 2 xs fun _ => rfl
  unfold ct_SFraction cost_SFraction; omega

/-- A slice of the call's own, from block `base` on, holding flat elements. -/
def Row {α : Type} (E : Enc α) (enc : α → List Value) (t : TypeId) (w : World) (base : Nat) (v : Value) (xs : List α) : Prop :=
  w.ownsRow base t E.size v xs.length (xs.flatMap enc) ∧ ∀ x ∈ xs, ∀ W : World, E.O W (fun _ => False) (enc x) x

theorem flat_get {α : Type} (enc : α → List Value) (s : Nat) : ∀ (xs : List α), (∀ x ∈ xs, (enc x).length = s) → ∀ (i : Nat) (x : α), xs[i]? = some x → ∀ j, j < s → (xs.flatMap enc)[i * s + j]? = (enc x)[j]?
  | [], _, i, x, hx, _, _ => by simp at hx
  | y :: ys, h, 0, x, hx, j, hj => by
    simp at hx; subst hx
    rw [List.flatMap_cons, Nat.zero_mul, Nat.zero_add, List.getElem?_append_left (by rw [h y (by simp)]; exact hj)]
  | y :: ys, h, i + 1, x, hx, j, hj => by
    have hy := h y (by simp)
    rw [List.flatMap_cons, Nat.succ_mul, List.getElem?_append_right (by rw [hy]; omega), hy, show i * s + s + j - s = i * s + j from by omega]
    exact flat_get enc s ys (fun z hz => h z (by simp [hz])) i x (by simpa using hx) j hj

theorem Row.so {α : Type} {E : Enc α} {enc : α → List Value} {t : TypeId} {w0 w : World} {v : Value} {xs : List α} (h : Row E enc t w w0.heap.size v xs) : ∃ A c, v = .slice A xs.length c ∧ So E w (Fr w0 w) A c xs := by
  obtain ⟨h1, h2⟩ := h
  rcases h1.2 with ⟨rfl, hn⟩ | ⟨g, cap, cur, rfl, hg, hh, hnc, hcm, hcs, htk⟩
  · have hx : xs = [] := List.eq_nil_of_length_eq_zero hn
    subst hx
    exact ⟨none, 0, rfl, So.nil (Nat.zero_le _)⟩
  · refine ⟨_, cap, rfl, hnc, hcm, fun hne => ⟨g, 0, t, cur, fun _ _ => False, rfl, ⟨hg, Blk.lt (t := t) (cur := cur) hh⟩, hh, fun _ _ h => h.elim, fun _ _ _ h => h.elim, fun i x hx => ⟨enc x, h2 x (List.mem_of_getElem? hx) w, fun j u hu => ?_⟩⟩⟩
    have hi := (List.getElem?_eq_some_iff.1 hx).1
    have hj := (List.getElem?_eq_some_iff.1 hu).1
    have hl : ∀ y ∈ xs, (enc y).length = E.size := fun y hy => E.len (E.read (h2 y hy w))
    rw [hl x (List.mem_of_getElem? hx)] at hj
    have h3 := flat_get enc E.size xs hl i x hx j hj
    rw [← htk] at h3
    have hlt : i * E.size + j < xs.length * E.size := by
      have : (i + 1) * E.size ≤ xs.length * E.size := Nat.mul_le_mul_right _ (by omega)
      rw [Nat.succ_mul] at this; omega
    rw [List.getElem?_take_of_lt hlt, Array.getElem?_toList] at h3
    rw [Nat.zero_add, h3]; exact hu

theorem Row.nil {α : Type} {E : Enc α} {enc : α → List Value} {t : TypeId} {w : World} {base : Nat} : Row E enc t w base (.slice none 0 0) [] := ⟨World.ownsRow_nil _ _ _ _, fun _ h => by simp at h⟩

/-- `[]T{}`: an empty row of its own. -/
theorem Row.empty {α : Type} {E : Enc α} {enc : α → List Value} {t : TypeId} {w : World} {base : Nat} (hb : base ≤ w.heap.size) : Row E enc t (w.alloc (.cells #[] t)) base (.slice (some ⟨w.heap.size, 0, none⟩) 0 0) [] :=
  ⟨⟨by simp, .inr ⟨_, 0, #[], rfl, hb, Blk.new w t #[], Nat.le_refl _, Nat.zero_le _, by simp, by simp⟩⟩, fun _ h => by simp at h⟩

def encFraction (x : tFraction) : List Value := [.int .i64 x.1, .int .i64 x.2]

theorem Row.keep {α : Type} {E : Enc α} {enc : α → List Value} {t : TypeId} {w w' : World} {base : Nat} {v : Value} {xs : List α} (h : Row E enc t w base v xs) (hk : ∀ b, v.ownBlock = some b → w'.heap[b]? = w.heap[b]?) : Row E enc t w' base v xs := by
  obtain ⟨⟨h1, h2⟩, h3⟩ := h
  refine ⟨⟨h1, ?_⟩, h3⟩
  rcases h2 with h2 | ⟨g, cap, cur, rfl, hg, hh, r⟩
  · exact .inl h2
  · exact .inr ⟨g, cap, cur, rfl, hg, (hk g rfl).trans hh, r⟩

theorem Row.lt {α : Type} {E : Enc α} {enc : α → List Value} {t : TypeId} {w : World} {base : Nat} {v : Value} {xs : List α} (h : Row E enc t w base v xs) : ∀ b, v.ownBlock = some b → base ≤ b ∧ b < w.heap.size := h.1.lt

theorem Row.on {α : Type} {E : Enc α} {enc : α → List Value} {t : TypeId} {w w' : World} {base : Nat} {v : Value} {xs : List α} (h : Row E enc t w base v xs) (hb : Below w.heap.size w w') : Row E enc t w' base v xs := h.keep fun b hv => hb.block b (h.lt b hv).2

theorem Row.snoc {α : Type} {E : Enc α} {enc : α → List Value} {t : TypeId} {w w' : World} {base : Nat} {v v' : Value} {xs : List α} {x : α} (h : Row E enc t w base v xs) (ho : w'.ownsRow base t E.size v' (xs.length + 1) (xs.flatMap enc ++ enc x)) (hx : ∀ W : World, E.O W (fun _ => False) (enc x) x) : Row E enc t w' base v' (xs ++ [x]) := by
  refine ⟨?_, fun y hy => ?_⟩
  · rw [List.length_append, List.length_singleton, List.flatMap_append]
    simpa using ho
  · rcases List.mem_append.1 hy with h1 | h1
    · exact h.2 y h1
    · rw [List.mem_singleton.1 h1]; exact hx

def fracBad (x : tFraction) : Bool := !withinB x.1 1 999999 || !withinB x.2 1 999999

theorem enters_ValidFractions1 : ∀ args w, (callFunc 75 args).run Try.prog w = .ok (.enter 75 args) w := enters_of Try.func75 (by kernel_rfl) rfl

theorem impl_ValidFractions1 (es : List Value) (x : tFraction) (w : World) (h : eFraction.R w (Old w) es x) :
    Calls Try.prog 75 #[.agg es.toArray] w fun e w' => e = .returned (.bool (fracBad x)) ∧ Below w.heap.size w w' := by
  obtain ⟨rfl, _, _⟩ := shape_Fraction h
  clear h
  unfold fracBad
  obtain ⟨u, d⟩ := x
  cases h1 : withinB u 1 999999
  · go_enter Try.func75, Try.ntmps75
    go_wp2_with (go_at_call 72; refine (impl_within _ _ _ _).mono ?_; rintro e w' ⟨rfl, rfl⟩; rw [h1])
    go_ret
    exact ⟨by first | (simp; done) | simp [h1], (Below.refl _ _).alloc (Nat.le_refl _) _⟩
  · go_enter Try.func75, Try.ntmps75
    go_wp2_with (go_at_call 72; refine (impl_within _ _ _ _).mono ?_; rintro e w' ⟨rfl, rfl⟩; (try rw [h1]))
    go_ret
    exact ⟨by first | (simp; done) | simp [h1], (Below.refl _ _).alloc (Nat.le_refl _) _⟩

def validFrac (xs : List tFraction) : Bool := withinB xs.length 1 100 && !xs.any fracBad

theorem impl_ValidFractions (A : Option Addr) (c : Nat) (xs : List tFraction) (w : World) (h : Sl eFraction w (Old w) A c xs) :
    Calls Try.prog 18 #[.slice A xs.length c] w fun e w' => e = .returned (.bool (validFrac xs)) ∧ Below w.heap.size w w' := by
  unfold validFrac
  have hI := Lib.hid (ContainsFunc_Fraction fracBad 75 #[] A c xs w h enters_ValidFractions1 (fun W x es _ hb hR => impl_ValidFractions1 es x W hR)); clear h
  cases h1 : withinB xs.length 1 100
  · go_enter Try.func18, Try.ntmps18
    go_wp2_with (first | (go_at_call 73; refine (impl_size_Fraction _ _ _ _).mono ?_; rintro e w' ⟨rfl, rfl⟩) | (go_at_call 72; refine (impl_within _ _ _ _).mono ?_; rintro e w' ⟨rfl, rfl⟩; rw [h1]))
    go_ret
    exact ⟨by simp, Below.refl _ _⟩
  · go_enter Try.func18, Try.ntmps18
    go_wp2_with (first | (go_at_call 73; refine (impl_size_Fraction _ _ _ _).mono ?_; rintro e w' ⟨rfl, rfl⟩) | (go_at_call 72; refine (impl_within _ _ _ _).mono ?_; rintro e w' ⟨rfl, rfl⟩; rw [h1]) | (go_at_call 74; refine hI.out.mono ?_; rintro e w' ⟨rfl, hb⟩))
    go_ret
    exact ⟨by simp, hb⟩

set_option maxHeartbeats 400000 in
theorem spec_l08Is (A : Option Addr) (c : Nat) (xs : List tFraction) (w : World) (h : Sl eFraction w (Old w) A c xs) :
    Calls Try.prog 70 #[.slice A xs.length c] w fun e w' => e = .returned (.bool (validFrac xs)) ∧ w = w' := by
  unfold validFrac
  have hlen := h.len
  have H := Lib.hid h; clear h
  by_cases h1 : xs.length < 1
  · have hw : withinB xs.length 1 100 = false := by unfold withinB; simp; omega
    rw [hw]
    have h1' : (xs.length : Int) < 1 := by omega
    go_enter Try.func70, Try.ntmps70
    go_wp2
    go_ret
    exact ⟨rfl, rfl⟩
  by_cases h2 : xs.length > 100
  · have hw : withinB xs.length 1 100 = false := by unfold withinB; simp; omega
    rw [hw]
    have h1' : decide ((xs.length : Int) < 1) = false := by simp; omega
    have h2' : (100 : Int) < (xs.length : Int)  := by omega
    go_enter Try.func70, Try.ntmps70
    go_wp2
    go_ret
    exact ⟨rfl, rfl⟩
  have hw : withinB xs.length 1 100 = true := by unfold withinB; simp; omega
  rw [hw]; clear hw
  have h1' : decide ((xs.length : Int) < 1) = false := by simp; omega
  have h2' : decide ((100 : Int) < (xs.length : Int)) = false := by simp; omega
  go_enter Try.func70, Try.ntmps70
  go_wp2
  go_loop [3] (fun i => ∃ k : Nat, k ≤ xs.length ∧ i = .int .i64 k ∧ Hid ((xs.take k).any fracBad = false)) (fun i => xs.length - (intOf i).toNat)
  case atStart => exact ⟨0, Nat.zero_le _, rfl, rfl⟩
  case round =>
    obtain ⟨k, hk, rfl, HN⟩ := hrel
    by_cases hlt : k < xs.length
    · have hltz : (k : Int) < (xs.length : Int) := by omega
      obtain ⟨b, off, es, rfl, hb, hR, hc⟩ := H.out.at hlt
      obtain ⟨rfl, hi1, hi2⟩ := shape_Fraction hR
      have c0 : w.cell? ⟨b, off + k * 2, none⟩ = some (.int .i64 xs[k].1) := hc 0 _ rfl
      have c1 : w.cell? ⟨b, off + k * 2 + 1, none⟩ = some (.int .i64 xs[k].2) := hc 1 _ rfl
      clear hc hR hi1 hi2
      have HF : Hid (fracBad xs[k] = (!withinB xs[k].1 1 999999 || !withinB xs[k].2 1 999999)) := rfl
      have HT : Hid (fracBad xs[k] = true → xs.any fracBad = true) := fun e => any_hit hlt e
      have HS : Hid (fracBad xs[k] = false → (xs.take (k + 1)).any fracBad = false) := fun e => any_step hlt HN.out e
      generalize xs[k] = y at c0 c1 HF HT HS
      obtain ⟨u, d⟩ := y
      cases q1 : withinB u 1 999999
      · go_wp2_with (go_at_call 119; refine (spec_l00In _ _ _ _).mono ?_; rintro e w' ⟨rfl, rfl⟩; rw [q1])
        go_ret
        exact ⟨by rw [HT.out (by rw [HF.out]; simp [q1])]; rfl, rfl⟩
      · cases q2 : withinB d 1 999999
        · go_wp2_with (go_at_call 119; refine (spec_l00In _ _ _ _).mono ?_; rintro e w' ⟨rfl, rfl⟩; first | rw [q1] | rw [q2])
          go_ret
          exact ⟨by rw [HT.out (by rw [HF.out]; simp [q1, q2])]; rfl, rfl⟩
        · go_wp2_with (go_at_call 119; refine (spec_l00In _ _ _ _).mono ?_; rintro e w' ⟨rfl, rfl⟩; first | rw [q1] | rw [q2])
          go_round
          case rel => exact ⟨k + 1, by omega, by go_num, HS.out (by rw [HF.out]; simp [q1, q2])⟩
          case measure => simp [intOf]; omega
    · have hltz : ¬ (k : Int) < (xs.length : Int) := by omega
      obtain rfl : k = xs.length := by omega
      go_wp2
      go_ret
      refine ⟨?_, rfl⟩
      have := HN.out
      rw [List.take_length] at this
      rw [this]; rfl

theorem gcd_meas (a b : Int) (hb : 0 < b) : 0 ≤ a % b ∧ a % b < b := ⟨Int.emod_nonneg _ (by omega), Int.emod_lt_of_pos _ hb⟩

theorem gcd_step (a b : Int) (ha : 0 ≤ a) (hb : 0 < b) : Int.gcd a b = Int.gcd b (a % b) := by
  obtain ⟨m, rfl⟩ := Int.eq_ofNat_of_zero_le ha
  obtain ⟨n, rfl⟩ := Int.eq_ofNat_of_zero_le (Int.le_of_lt hb)
  rw [← Int.natCast_emod]
  show Nat.gcd m n = Nat.gcd n (m % n)
  rw [Nat.gcd_comm, Nat.gcd_rec, Nat.gcd_comm]

set_option maxHeartbeats 400000 in
theorem impl_gcd (a b : Int) (w : World) (ha : 1 ≤ a) (ha' : a ≤ 999999) (hb : 1 ≤ b) (hb' : b ≤ 999999) :
    Calls Try.prog 99 #[.int .i64 a, .int .i64 b] w fun e w' => e = .returned (.int .i64 (Int.gcd a b)) ∧ Below w.heap.size w w' := by
  go_enter Try.func99, Try.ntmps99
  go_wp2
  go_loopw [0, 1] (fun s0 s1 wr => ∃ x y : Int, s0 = .int .i64 x ∧ s1 = .int .i64 y ∧ 1 ≤ x ∧ x ≤ 999999 ∧ 0 ≤ y ∧ y ≤ 999999 ∧ Hid (Int.gcd x y = Int.gcd a b) ∧ Hid (Below w.heap.size w wr)) (fun _ s1 _ => (intOf s1).toNat)
  case atStart => exact ⟨a, b, rfl, rfl, ha, ha', by omega, hb', rfl, Below.refl _ _⟩
  case round =>
    obtain ⟨x, y, rfl, rfl, hx, hx', hy, hy', HG, BW⟩ := hrel
    by_cases h0 : y = 0
    · have h0' : (y != 0) = false := by simp [h0]
      have HF : Hid (x = Int.gcd a b) := by
        have := HG.out
        rw [h0] at this
        show _ = _
        rw [← this]; simp; omega
      clear h0
      go_wp2
      go_ret
      exact ⟨ret_int HF.out, BW.out⟩
    · have h0' : (y != 0) = true := by simp [h0]
      have hy1 : 1 ≤ y := by omega
      have hm := gcd_meas x y (by omega)
      have hm1 := hm.1
      have hm2 := hm.2
      clear hm h0
      have HF : Hid (Int.gcd y (x % y) = Int.gcd a b) := by show _ = _; rw [← HG.out]; exact (gcd_step x y (by omega) (by omega)).symm
      have hne : (y == 0) = false := by simp; omega
      go_wp2_with fail
      go_quiet (fail)
      go_wp2
      go_roundw
      case rel => exact ⟨y, x % y, rfl, by go_num, by omega, by omega, by omega, by omega, HF.out, below_drewN BW.out _⟩
      case measure => simp [intOf]; omega

set_option maxHeartbeats 400000 in
theorem spec_l08Gcd (a b : Int) (w : World) (ha : 1 ≤ a) (ha' : a ≤ 999999) (hb : 1 ≤ b) (hb' : b ≤ 999999) :
    Calls Try.prog 98 #[.int .i64 a, .int .i64 b] w fun e w' => e = .returned (.int .i64 (Int.gcd a b)) ∧ w = w' := by
  go_enter Try.func98, Try.ntmps98
  go_wp2
  go_loop [0, 1] (fun s0 s1 => ∃ x y : Int, s0 = .int .i64 x ∧ s1 = .int .i64 y ∧ 1 ≤ x ∧ x ≤ 999999 ∧ 0 ≤ y ∧ y ≤ 999999 ∧ Hid (Int.gcd x y = Int.gcd a b)) (fun _ s1 => (intOf s1).toNat)
  case atStart => exact ⟨a, b, rfl, rfl, ha, ha', by omega, hb', rfl⟩
  case round =>
    obtain ⟨x, y, rfl, rfl, hx, hx', hy, hy', HG⟩ := hrel
    by_cases h0 : y = 0
    · have HF : Hid (x = Int.gcd a b) := by
        have := HG.out
        rw [h0] at this
        show _ = _
        rw [← this]; simp; omega
      have h0' : ¬ 0 < y := by omega
      clear h0
      go_wp2
      go_ret
      exact ⟨ret_int HF.out, rfl⟩
    · have hy1 : 1 ≤ y := by omega
      have hy2 : 0 < y := by omega
      have hm := gcd_meas x y (by omega)
      have hm1 := hm.1
      have hm2 := hm.2
      clear hm h0
      have HF : Hid (Int.gcd y (x % y) = Int.gcd a b) := by show _ = _; rw [← HG.out]; exact (gcd_step x y (by omega) (by omega)).symm
      have hne : (y == 0) = false := by simp; omega
      go_wp2
      go_round
      case rel => exact ⟨y, x % y, rfl, by go_num, by omega, by omega, by omega, by omega, HF.out⟩
      case measure => simp [intOf]; omega

def redF (x : tFraction) : tFraction := (x.1 / Int.gcd x.1 x.2, x.2 / Int.gcd x.1 x.2)

def reduce (xs : List tFraction) : List tFraction × Int := if validFrac xs then (xs.map redF, 0) else ([], 1)

theorem validFrac_len {xs : List tFraction} (h : validFrac xs = true) : xs.length ≤ 100 := by
  unfold validFrac at h
  rw [Bool.and_eq_true] at h
  have := (withinB_true.1 h.1).2
  omega

theorem validFrac_at {xs : List tFraction} (h : validFrac xs = true) {k : Nat} (hk : k < xs.length) : 1 ≤ xs[k].1 ∧ xs[k].1 ≤ 999999 ∧ 1 ≤ xs[k].2 ∧ xs[k].2 ≤ 999999 := by
  unfold validFrac at h
  rw [Bool.and_eq_true, Bool.not_eq_true'] at h
  have h1 : fracBad xs[k] = false := by
    rw [List.any_eq_false] at h
    simpa using h.2 _ (List.getElem_mem hk)
  unfold fracBad at h1
  rw [Bool.or_eq_false_iff, Bool.not_eq_false', Bool.not_eq_false'] at h1
  have h2 := withinB_true.1 h1.1
  have h3 := withinB_true.1 h1.2
  exact ⟨h2.1, h2.2, h3.1, h3.2⟩

theorem gcd_bd (a b : Int) (ha : 1 ≤ a) (ha' : a ≤ 999999) : 1 ≤ (Int.gcd a b : Int) ∧ (Int.gcd a b : Int) ≤ 999999 := by
  have h1 : 0 < Int.gcd a b := Int.gcd_pos_of_ne_zero_left b (by omega)
  have h2 := Int.gcd_le_natAbs_left (a := a) b (by omega)
  omega

theorem div_bd (a g : Int) (ha : 1 ≤ a) (ha' : a ≤ 999999) (hg : 1 ≤ g) : 0 ≤ a / g ∧ a / g ≤ 999999 := by
  refine ⟨Int.ediv_nonneg (by omega) (by omega), ?_⟩
  have := Int.ediv_le_self g (show 0 ≤ a by omega)
  omega

set_option maxRecDepth 100000 in
set_option maxHeartbeats 2000000 in
theorem impl_ReduceFractions (A : Option Addr) (c : Nat) (xs : List tFraction) (w : World) (h : Sl eFraction w (Old w) A c xs) :
    Calls Try.prog 38 #[.slice A xs.length c] w fun e w' => ∃ A' c', e = .returned (.tuple #[.slice A' (reduce xs).1.length c', .int .i64 (reduce xs).2]) ∧ So eFraction w' (Fr w w') A' c' (reduce xs).1 ∧ Below w.heap.size w w' := by
  obtain ⟨i0, hi0, hz0, hz1, hz2⟩ := info_parts info_impl_Fraction
  have hlen := h.len
  have hV := Lib.hid (impl_ValidFractions A c xs w h)
  have H := Lib.hid h; clear h
  cases q : validFrac xs
  · rw [show reduce xs = ([], 1) from by unfold reduce; rw [q]; rfl]
    rw [q] at hV
    go_enter Try.func38, Try.ntmps38
    go_wp2_with (go_at_call 18; refine hV.out.mono ?_; rintro e w1 ⟨rfl, hb⟩)
    go_ret2
    exact ⟨none, 0, rfl, So.nil (Nat.zero_le _), hb⟩
  · rw [show reduce xs = (xs.map redF, 0) from by unfold reduce; rw [q]; rfl]
    rw [q] at hV
    have hl100 := validFrac_len q
    have HQ := Lib.hid q; clear q
    go_enter Try.func38, Try.ntmps38
    go_wp2_with (go_at_call 18; refine hV.out.mono ?_; rintro e w1 ⟨rfl, hb⟩; have HB1 := Lib.hid hb; clear hb)
    go_loopw [4, 14] (fun s4 s14 wr => ∃ k : Nat, k ≤ xs.length ∧ s14 = .int .i64 k ∧ Hid (Row eFraction encFraction 101 wr w.heap.size s4 ((xs.take k).map redF)) ∧ Hid (Below w.heap.size w wr)) (fun _ s14 _ => xs.length - (intOf s14).toNat)
    case atStart => exact ⟨0, Nat.zero_le _, rfl, Row.empty HB1.out.size, below_alloc HB1.out _⟩
    case round =>
      obtain ⟨k, hk, rfl, HR, BW⟩ := hrel
      by_cases hlt : k < xs.length
      · have hltz : (k : Int) < (xs.length : Int) := by omega
        obtain ⟨b, off, es, rfl, hb, hR, hc⟩ := H.out.at hlt
        obtain ⟨rfl, _, _⟩ := shape_Fraction hR
        have d0 : wr.cell? ⟨b, off + k * 2, none⟩ = some (.int .i64 xs[k].1) := (below_olds BW.out _ hb).trans (hc 0 _ rfl)
        have d1 : wr.cell? ⟨b, off + k * 2 + 1, none⟩ = some (.int .i64 xs[k].2) := (below_olds BW.out _ hb).trans (hc 1 _ rfl)
        clear hc hR
        obtain ⟨r1, r2, r3, r4⟩ := validFrac_at HQ.out hlt
        have HS : Hid ((xs.take (k + 1)).map redF = (xs.take k).map redF ++ [redF xs[k]]) := by show _ = _; rw [List.take_succ_eq_append_getElem hlt, List.map_append]; rfl
        generalize xs[k] = y at d0 d1 r1 r2 r3 r4 HS
        obtain ⟨u, d⟩ := y
        go_wp2_with fail
        refine (impl_gcd u d _ r1 r2 r3 r4).mono ?_
        rintro e w2 ⟨rfl, hb2⟩
        have hgb := gcd_bd u d r1 r2
        have hE : Hid (redF (u, d) = (u / (Int.gcd u d : Int), d / (Int.gcd u d : Int))) := rfl
        generalize (Int.gcd u d : Int) = g at hgb hE
        have hg1 := hgb.1
        have hg2 := hgb.2
        have hu := div_bd u g r1 r2 hg1
        have hd := div_bd d g r3 r4 hg1
        clear hgb
        have e0 : w2.cell? ⟨wr.heap.size, 0, none⟩ = some (.int .i64 u) := ((Blk.new wr 101 #[.int .i64 u, .int .i64 d]).on hb2).cell 0
        have e1 : w2.cell? ⟨wr.heap.size, 1, none⟩ = some (.int .i64 d) := ((Blk.new wr 101 #[.int .i64 u, .int .i64 d]).on hb2).cell 1
        have HB2 := Lib.hid hb2; clear hb2
        have q1 : u.tdiv g = u / g := Int.tdiv_eq_ediv_of_nonneg (by omega)
        have q2 : d.tdiv g = d / g := Int.tdiv_eq_ediv_of_nonneg (by omega)
        have q3 : IntKind.i64.wrap (u / g) = u / g := IntWalk.i64_in _ (by omega)
        have q4 : IntKind.i64.wrap (d / g) = d / g := IntWalk.i64_in _ (by omega)
        have q5 : (g == 0) = false := by simp; omega
        have q6 : ¬ g = 0 := by omega
        have hRow := HR.out.on (below_alloc (Below.refl _ _) (.cells #[.int .i64 u, .int .i64 d] 101))
        have hRow2 := hRow.on HB2.out
        have hne : some wr.heap.size ≠ u4.ownBlock := fun e => by have := (HR.out.lt _ e.symm).2; omega
        have HRow := Lib.hid hRow2
        have HL : Hid ((xs.take k).length = k) := by show _ = _; rw [List.length_take]; omega
        have hown := hRow2.1
        clear hRow hRow2
        have hlt2 : wr.heap.size < w2.heap.size := by have := HB2.out.size; rw [World.size_alloc] at this; omega
        have hbase : w.heap.size ≤ w2.heap.size := by have := BW.out.size; omega
        go_wp2_with fail
        go_region_held3 (fun w' => w'.cell? ⟨wr.heap.size, 0, none⟩ = some (.int .i64 u) ∧ w'.cell? ⟨wr.heap.size, 1, none⟩ = some (.int .i64 d))
          (first | (simp [go_sem, *]; done) | (refine ⟨hgrow.cell (by simp [go_sem, *]) hne, hgrow.cell (by simp [go_sem, *]) hne⟩))
          ((refine step_append_lies _ (by rfl) _ _ _ (by rfl) w.heap.size 101 i0 _ 2 16 Try.underlying25 hi0 hz0 hz1 hz2 rfl (by omega) u4 _ _ (by rfl) ((hown.alloc _).drew) ⟨w2.heap.size, 0, none⟩ 1 1 [.int .i64 (u / g), .int .i64 (d / g)] (by rfl) (by rfl) (World.news_of_block (cs := #[.int .i64 (u / g), .int .i64 (d / g)]) (t := 101) (fr := (0, 0)) (heap_alloc_new w2 _)) (by simp [Value.oneCell']) (by omega) (by unfold maxLen; simp; omega) (by simp; omega) (by simp; omega) (w2.heap.size + 1) (by simp) ?_; intro gg cap w3 hown1 hgrow hat hlt3))
        have HN : Hid (Row eFraction encFraction 101 w3 w.heap.size (.slice (some ⟨gg, 0, none⟩) (((xs.take k).map redF).length + 1) cap) ((xs.take (k + 1)).map redF)) := by
          show Row _ _ _ _ _ _ _
          rw [HS.out, hE.out]
          exact Row.snoc HRow.out hown1 fun W => oPrI (i64_small hu.1 (by omega)) (oI (i64_small hd.1 (by omega)))
        rw [show ((xs.take k).map redF).length = k from by rw [List.length_map]; exact HL.out] at HN
        have HG := Lib.hid hgrow; clear hgrow hown1 hown
        have HHat := Lib.hid hat; clear hat
        have HBW : Hid (Below w.heap.size w w3) := by
          show Below _ _ _
          refine (BW.out.trans ((below_trans (below_alloc (Below.refl _ _) _) HB2.out).mono BW.out.size)).trans ?_
          exact ((((Below.refl w.heap.size w2).alloc hbase _).drew).grown HG.out (by simp; omega) (fun b hb => (HRow.out.lt b hb).1))
        go_wp2
        go_roundw
        case rel => exact ⟨k + 1, by omega, by go_num, HN.out, HBW.out⟩
        case measure => simp [intOf]; omega
      · have hltz : ¬ (k : Int) < (xs.length : Int) := by omega
        obtain rfl : k = xs.length := by omega
        have h3 := HR.out
        rw [List.take_length] at h3
        obtain ⟨A', c', rfl, hso⟩ := h3.so
        have HO := Lib.hid hso; clear hso h3 HR
        go_wp2
        go_ret2
        exact ⟨A', c', rfl, HO.out, BW.out⟩

set_option maxRecDepth 100000 in
set_option maxHeartbeats 2000000 in
theorem spec_ReduceFractions (A : Option Addr) (c : Nat) (xs : List tFraction) (w : World) (h : Sl eFraction w (Old w) A c xs) :
    Calls Try.prog 37 #[.slice A xs.length c] w fun e w' => ∃ A' c', e = .returned (.tuple #[.slice A' (reduce xs).1.length c', .int .i64 (reduce xs).2]) ∧ Sl eFraction w' (Old w') A' c' (reduce xs).1 ∧ Below w.heap.size w w' := by
  obtain ⟨i0, hi0, hz0, hz1, hz2⟩ := info_parts info_impl_Fraction
  have hlen := h.len
  have hV := Lib.hid (spec_l08Is A c xs w h)
  have H := Lib.hid h; clear h
  cases q : validFrac xs
  · rw [show reduce xs = ([], 1) from by unfold reduce; rw [q]; rfl]
    rw [q] at hV
    go_enter Try.func37, Try.ntmps37
    go_wp2_with (go_at_call 70; refine hV.out.mono ?_; rintro e w1 ⟨rfl, rfl⟩)
    go_ret2
    exact ⟨none, 0, rfl, Sl.nil (Nat.zero_le _), Below.refl _ _⟩
  · rw [show reduce xs = (xs.map redF, 0) from by unfold reduce; rw [q]; rfl]
    rw [q] at hV
    have hl100 := validFrac_len q
    have HQ := Lib.hid q; clear q
    go_enter Try.func37, Try.ntmps37
    go_wp2_with (go_at_call 70; refine hV.out.mono ?_; rintro e w1 ⟨rfl, rfl⟩)
    have HB1 := Lib.hid (Below.refl w.heap.size w)
    go_loopw [4, 5] (fun s4 s14 wr => ∃ k : Nat, k ≤ xs.length ∧ s14 = .int .i64 k ∧ Hid (Row eFraction encFraction 101 wr w.heap.size s4 ((xs.take k).map redF)) ∧ Hid (Below w.heap.size w wr)) (fun _ s14 _ => xs.length - (intOf s14).toNat)
    case atStart => exact ⟨0, Nat.zero_le _, rfl, Row.empty HB1.out.size, below_alloc HB1.out _⟩
    case round =>
      obtain ⟨k, hk, rfl, HR, BW⟩ := hrel
      by_cases hlt : k < xs.length
      · have hltz : (k : Int) < (xs.length : Int) := by omega
        obtain ⟨b, off, es, rfl, hb, hR, hc⟩ := H.out.at hlt
        obtain ⟨rfl, _, _⟩ := shape_Fraction hR
        have d0 : wr.cell? ⟨b, off + k * 2, none⟩ = some (.int .i64 xs[k].1) := (below_olds BW.out _ hb).trans (hc 0 _ rfl)
        have d1 : wr.cell? ⟨b, off + k * 2 + 1, none⟩ = some (.int .i64 xs[k].2) := (below_olds BW.out _ hb).trans (hc 1 _ rfl)
        clear hc hR
        obtain ⟨r1, r2, r3, r4⟩ := validFrac_at HQ.out hlt
        have HS : Hid ((xs.take (k + 1)).map redF = (xs.take k).map redF ++ [redF xs[k]]) := by show _ = _; rw [List.take_succ_eq_append_getElem hlt, List.map_append]; rfl
        generalize xs[k] = y at d0 d1 r1 r2 r3 r4 HS
        obtain ⟨u, d⟩ := y
        have hC := Lib.hid fun W => Calls.flip (spec_l08Gcd u d W r1 r2 r3 r4)
        have hgb := gcd_bd u d r1 r2
        have hE : Hid (redF (u, d) = (u / (Int.gcd u d : Int), d / (Int.gcd u d : Int))) := rfl
        generalize (Int.gcd u d : Int) = g at hgb hE hC
        have hg1 := hgb.1
        have hg2 := hgb.2
        have hu := div_bd u g r1 r2 hg1
        have hd := div_bd d g r3 r4 hg1
        clear hgb
        have hk0 : (0 : Int) ≤ (k : Int) := by omega
        go_wp2_with fail
        go_quiet ((go_at_call 98; exact Calls.quiet_of_same (hC.out _)))
        have HB2 : Hid (Below wr.heap.size wr (wr.drewN nq)) := below_drewN (Below.refl _ _) _
        have e0 : (wr.drewN nq).cell? ⟨b, off + k * 2, none⟩ = some (.int .i64 u) := d0
        have e1 : (wr.drewN nq).cell? ⟨b, off + k * 2 + 1, none⟩ = some (.int .i64 d) := d1
        have hsz2 : (wr.drewN nq).heap.size = wr.heap.size := rfl
        generalize wr.drewN nq = w2 at *
        have q1 : u.tdiv g = u / g := Int.tdiv_eq_ediv_of_nonneg (by omega)
        have q2 : d.tdiv g = d / g := Int.tdiv_eq_ediv_of_nonneg (by omega)
        have q3 : IntKind.i64.wrap (u / g) = u / g := IntWalk.i64_in _ (by omega)
        have q4 : IntKind.i64.wrap (d / g) = d / g := IntWalk.i64_in _ (by omega)
        have q5 : (g == 0) = false := by simp; omega
        have q6 : ¬ g = 0 := by omega
        have hRow2 := HR.out.on HB2.out
        have hne : some b ≠ u4.ownBlock := fun e => by have := (HR.out.lt _ e.symm).1; have : b < w.heap.size := hb; omega
        have HRow := Lib.hid hRow2
        have HL : Hid ((xs.take k).length = k) := by show _ = _; rw [List.length_take]; omega
        have hown := hRow2.1
        clear hRow2
        have hlt2 : b < w2.heap.size := by have := HB2.out.size; have := BW.out.size; have : b < w.heap.size := hb; omega
        have hbase : w.heap.size ≤ w2.heap.size := by have := BW.out.size; have := HB2.out.size; omega
        clear hsz2
        go_wp2_with fail
        go_region_held3 (fun w' => w'.cell? ⟨b, off + k * 2, none⟩ = some (.int .i64 u) ∧ w'.cell? ⟨b, off + k * 2 + 1, none⟩ = some (.int .i64 d))
          (first | (simp [go_sem, *]; done) | (refine ⟨hgrow.cell (by simp [go_sem, *]) hne, hgrow.cell (by simp [go_sem, *]) hne⟩))
          ((refine step_append_lies _ (by rfl) _ _ _ (by rfl) w.heap.size 101 i0 _ 2 16 Try.underlying25 hi0 hz0 hz1 hz2 rfl (by omega) u4 _ _ (by rfl) ((hown.alloc _).drew) ⟨w2.heap.size, 0, none⟩ 1 1 [.int .i64 (u / g), .int .i64 (d / g)] (by rfl) (by rfl) (World.news_of_block (cs := #[.int .i64 (u / g), .int .i64 (d / g)]) (t := 101) (fr := (0, 0)) (heap_alloc_new w2 _)) (by simp [Value.oneCell']) (by omega) (by unfold maxLen; simp; omega) (by simp; omega) (by simp; omega) (w2.heap.size + 1) (by simp) ?_; intro gg cap w3 hown1 hgrow hat hlt3))
        have HN : Hid (Row eFraction encFraction 101 w3 w.heap.size (.slice (some ⟨gg, 0, none⟩) (((xs.take k).map redF).length + 1) cap) ((xs.take (k + 1)).map redF)) := by
          show Row _ _ _ _ _ _ _
          rw [HS.out, hE.out]
          exact Row.snoc HRow.out hown1 fun W => oPrI (i64_small hu.1 (by omega)) (oI (i64_small hd.1 (by omega)))
        rw [show ((xs.take k).map redF).length = k from by rw [List.length_map]; exact HL.out] at HN
        have HG := Lib.hid hgrow; clear hgrow hown1 hown
        have HHat := Lib.hid hat; clear hat
        have HBW : Hid (Below w.heap.size w w3) := by
          show Below _ _ _
          refine (BW.out.trans (HB2.out.mono BW.out.size)).trans ?_
          exact ((((Below.refl w.heap.size w2).alloc hbase _).drew).grown HG.out (by simp; omega) (fun b hb => (HRow.out.lt b hb).1))
        go_wp2
        go_roundw
        case rel => exact ⟨k + 1, by omega, by go_num, HN.out, HBW.out⟩
        case measure => simp [intOf]; omega
      · have hltz : ¬ (k : Int) < (xs.length : Int) := by omega
        obtain rfl : k = xs.length := by omega
        have h3 := HR.out
        rw [List.take_length] at h3
        obtain ⟨A', c', rfl, hso⟩ := h3.so
        have HO := Lib.hid hso; clear hso h3 HR
        go_wp2
        go_ret2
        exact ⟨A', c', rfl, HO.out.old, BW.out⟩

theorem reduce_ct (xs : List tFraction) : (ct_SFraction (reduce xs).1 : Int) ≤ 1000000000 := by
  have := cntL_const ct_Fraction 2 (reduce xs).1 fun _ => rfl
  have h2 : (reduce xs).1.length ≤ 100 := by
    unfold reduce
    cases q : validFrac xs
    · simp
    · have := validFrac_len q; simp; omega
  unfold ct_SFraction; omega

set_option maxRecDepth 100000 in
set_option maxHeartbeats 4000000 in
theorem law_ReduceFractions (A0 : Option Addr) (c0 : Nat) (a0 : (List tFraction)) (w : World) (h0 : Sl eFraction w (Old w) A0 c0 a0) :
    Calls Try.prog 8 #[.slice A0 a0.length c0] w fun e w' => e = .returned (.bool true) ∧ Below w.heap.size w w' := by
  have hlen0 := h0.len
  have H0 := Lib.hid h0; clear h0
  by_cases t0 : (1048576 : Int) - (cost_SFraction a0 : Nat) < 0
  · go_enter Try.func8, Try.ntmps8
    go_wp2_with fail
    refine (sz_FractionS _ _ a0 _ _ (by exact H0.out) (by omega) (by omega)).mono ?_
    rintro e z0 ⟨rfl, hb⟩
    rw [left_neg (by omega)]
    have HBz0 := Lib.hid hb; clear hb
    go_wp2
    go_ret
    exact ⟨rfl, HBz0.out⟩
  have HC0 : Hid (cost_SFraction a0 ≤ 1048576) := by show _ ≤ _; omega
  have HM0 : Hid ((ct_SFraction a0 : Int) ≤ 10000000) := by have := HC0.out; have := ct_cost_SFraction a0; show _ ≤ _; omega
  have HN0 : Hid ((ct_SFraction (reduce a0).1 : Int) ≤ 1000000000) := (reduce_ct a0)
  go_enter Try.func8, Try.ntmps8
  go_wp2_with fail
  refine (sz_FractionS _ _ a0 _ _ (by exact H0.out) (by omega) (by omega)).mono ?_
  rintro e z0 ⟨rfl, hb⟩
  rw [left_pos (by omega)]
  have HBz0 := Lib.hid hb; clear hb
  go_wp2_with fail
  refine (to_FractionS _ _ a0 _ (by exact H0.out.on HBz0.out) HC0.out).mono ?_
  rintro e ws0 ⟨As0, cs0, rfl, hs, hb⟩
  have HSs0 := Lib.hid hs; clear hs
  have HBws0 := Lib.hid (below_trans HBz0.out hb)
  have Zws0 : Hid (z0.heap.size ≤ ws0.heap.size) := hb.size
  clear hb
  have Us0 : Hid (Hid (ws0.heap.size ≤ ws0.heap.size)) := (Nat.le_refl _ : _)
  go_wp2_with fail
  refine (spec_ReduceFractions _ _ a0 _ (by exact HSs0.out.sl.more fun b hS => Nat.lt_of_lt_of_le hS.2 Us0.out.out)).mono ?_
  rintro e v0 ⟨Aw0, cw0, rfl, hs0, hb⟩
  have HW0 := Lib.hid hs0; clear hs0
  clear HSs0 Us0
  have HBv0 := Lib.hid (below_trans HBws0.out hb)
  have Zv0 : Hid (ws0.heap.size ≤ v0.heap.size) := hb.size
  clear hb
  have HVv0 := Lib.hid (Below.refl v0.heap.size v0)
  go_wp2_with fail
  refine (to_FractionS _ _ a0 _ (by exact H0.out.on HBv0.out) HC0.out).mono ?_
  rintro e wx0 ⟨Ax0, cx0, rfl, hs, hb⟩
  have HSx0 := Lib.hid hs; clear hs
  have HBwx0 := Lib.hid (below_trans HBv0.out hb)
  have HVwx0 := Lib.hid (HVv0.out.trans (hb.mono HVv0.out.size))
  have Zwx0 : Hid (v0.heap.size ≤ wx0.heap.size) := hb.size
  clear hb
  have Ux0 : Hid (Hid (wx0.heap.size ≤ wx0.heap.size)) := (Nat.le_refl _ : _)
  have LVx0 : Hid (Hid (v0.heap.size ≤ v0.heap.size)) := (show _ ≤ _ from HVv0.out.size)
  have LWx0 : Hid (Hid (w.heap.size ≤ v0.heap.size)) := (show _ ≤ _ from HBv0.out.size)
  go_wp2_with fail
  refine (impl_ReduceFractions _ _ a0 _ (by exact HSx0.out.sl.more fun b hS => Nat.lt_of_lt_of_le hS.2 Ux0.out.out)).mono ?_
  rintro e vg ⟨Ag0, cg0, rfl, hs0, hb⟩
  have HSg0 := Lib.hid hs0; clear hs0
  have PUx0 := Ux0
  have HBvg := Lib.hid (below_trans HBwx0.out hb)
  have HVvg := Lib.hid (HVwx0.out.trans (hb.mono HVwx0.out.size))
  have Zvg : Hid (wx0.heap.size ≤ vg.heap.size) := hb.size
  have HSx0_ := Lib.hid (HSx0.out.keep (fun b hS => hb.block b (Nat.lt_of_lt_of_le hS.2 (by have h1 := Ux0.out.out; exact h1)))); clear HSx0; have HSx0 := HSx0_; clear HSx0_
  have Ux0_ : Hid (Hid (wx0.heap.size ≤ vg.heap.size)) := (show _ ≤ _ from Nat.le_trans Ux0.out.out Zvg.out); clear Ux0; have Ux0 := Ux0_; clear Ux0_
  clear hb
  have Ug0 : Hid (Hid (vg.heap.size ≤ vg.heap.size)) := (Nat.le_refl _ : _)
  have ORD_x0_g0 : Hid (wx0.heap.size ≤ wx0.heap.size) := PUx0.out.out
  have LVg0 : Hid (Hid (v0.heap.size ≤ wx0.heap.size)) := (show _ ≤ _ from HVwx0.out.size)
  have LWg0 : Hid (Hid (w.heap.size ≤ wx0.heap.size)) := (show _ ≤ _ from HBwx0.out.size)
  clear PUx0
  go_wp2_with fail
  refine (eq_SFraction_c _ _ _ _ (reduce a0).1 (reduce a0).1 _ (by exact HSg0.out.sl.more fun b hS => Nat.lt_of_lt_of_le hS.2 Ug0.out.out) (by exact (HW0.out.keep (fun b hS => HVvg.out.cell hS)).more fun b hS => Nat.lt_of_lt_of_le hS HVvg.out.size)).mono ?_
  rintro e q10 ⟨rfl, hb⟩
  rw [eq_SFraction_refl]
  have HBq10 := Lib.hid (below_trans HBvg.out hb)
  have HVq10 := Lib.hid (HVvg.out.trans (hb.mono HVvg.out.size))
  have Zq10 : Hid (vg.heap.size ≤ q10.heap.size) := hb.size
  have HSx0_ := Lib.hid (HSx0.out.keep (fun b hS => hb.block b (Nat.lt_of_lt_of_le hS.2 (by have h1 := Ux0.out.out; exact h1)))); clear HSx0; have HSx0 := HSx0_; clear HSx0_
  have HSg0_ := Lib.hid (HSg0.out.keep (fun b hS => hb.block b (Nat.lt_of_lt_of_le hS.2 (by have h1 := Ug0.out.out; exact h1)))); clear HSg0; have HSg0 := HSg0_; clear HSg0_
  have Ux0_ : Hid (Hid (wx0.heap.size ≤ q10.heap.size)) := (show _ ≤ _ from Nat.le_trans Ux0.out.out Zq10.out); clear Ux0; have Ux0 := Ux0_; clear Ux0_
  have Ug0_ : Hid (Hid (vg.heap.size ≤ q10.heap.size)) := (show _ ≤ _ from Nat.le_trans Ug0.out.out Zq10.out); clear Ug0; have Ug0 := Ug0_; clear Ug0_
  clear hb
  go_wp2_with fail
  refine (to_FractionS _ _ a0 _ (by exact H0.out.on HBq10.out) HC0.out).mono ?_
  rintro e wy0 ⟨Ay0, cy0, rfl, hs, hb⟩
  have HSy0 := Lib.hid hs; clear hs
  have PUx0 := Ux0
  have PUg0 := Ug0
  have HBwy0 := Lib.hid (below_trans HBq10.out hb)
  have HVwy0 := Lib.hid (HVq10.out.trans (hb.mono HVq10.out.size))
  have Zwy0 : Hid (q10.heap.size ≤ wy0.heap.size) := hb.size
  have HSx0_ := Lib.hid (HSx0.out.keep (fun b hS => hb.block b (Nat.lt_of_lt_of_le hS.2 (by have h1 := Ux0.out.out; exact h1)))); clear HSx0; have HSx0 := HSx0_; clear HSx0_
  have HSg0_ := Lib.hid (HSg0.out.keep (fun b hS => hb.block b (Nat.lt_of_lt_of_le hS.2 (by have h1 := Ug0.out.out; exact h1)))); clear HSg0; have HSg0 := HSg0_; clear HSg0_
  have Ux0_ : Hid (Hid (wx0.heap.size ≤ wy0.heap.size)) := (show _ ≤ _ from Nat.le_trans Ux0.out.out Zwy0.out); clear Ux0; have Ux0 := Ux0_; clear Ux0_
  have Ug0_ : Hid (Hid (vg.heap.size ≤ wy0.heap.size)) := (show _ ≤ _ from Nat.le_trans Ug0.out.out Zwy0.out); clear Ug0; have Ug0 := Ug0_; clear Ug0_
  clear hb
  have Uy0 : Hid (Hid (wy0.heap.size ≤ wy0.heap.size)) := (Nat.le_refl _ : _)
  have ORD_x0_y0 : Hid (wx0.heap.size ≤ q10.heap.size) := PUx0.out.out
  have ORD_g0_y0 : Hid (vg.heap.size ≤ q10.heap.size) := PUg0.out.out
  have LVy0 : Hid (Hid (v0.heap.size ≤ q10.heap.size)) := (show _ ≤ _ from HVq10.out.size)
  have LWy0 : Hid (Hid (w.heap.size ≤ q10.heap.size)) := (show _ ≤ _ from HBq10.out.size)
  clear PUx0 PUg0
  go_wp2_with fail
  refine (eq_SFraction_c _ _ _ _ a0 a0 _ (by exact HSx0.out.sl.more fun b hS => Nat.lt_of_lt_of_le hS.2 Ux0.out.out) (by exact HSy0.out.sl.more fun b hS => Nat.lt_of_lt_of_le hS.2 Uy0.out.out)).mono ?_
  rintro e u0 ⟨rfl, hb⟩
  rw [eq_SFraction_refl]
  clear HSy0 Uy0
  clear ORD_x0_y0 ORD_g0_y0
  have HBu0 := Lib.hid (below_trans HBwy0.out hb)
  have HVu0 := Lib.hid (HVwy0.out.trans (hb.mono HVwy0.out.size))
  have Zu0 : Hid (wy0.heap.size ≤ u0.heap.size) := hb.size
  have HSx0_ := Lib.hid (HSx0.out.keep (fun b hS => hb.block b (Nat.lt_of_lt_of_le hS.2 (by have h1 := Ux0.out.out; exact h1)))); clear HSx0; have HSx0 := HSx0_; clear HSx0_
  have HSg0_ := Lib.hid (HSg0.out.keep (fun b hS => hb.block b (Nat.lt_of_lt_of_le hS.2 (by have h1 := Ug0.out.out; exact h1)))); clear HSg0; have HSg0 := HSg0_; clear HSg0_
  have Ux0_ : Hid (Hid (wx0.heap.size ≤ u0.heap.size)) := (show _ ≤ _ from Nat.le_trans Ux0.out.out Zu0.out); clear Ux0; have Ux0 := Ux0_; clear Ux0_
  have Ug0_ : Hid (Hid (vg.heap.size ≤ u0.heap.size)) := (show _ ≤ _ from Nat.le_trans Ug0.out.out Zu0.out); clear Ug0; have Ug0 := Ug0_; clear Ug0_
  clear hb
  go_wp2_with fail
  refine (mark_SFraction_c _ _ a0 _ _ _ HSx0.out (fun b hS => Nat.lt_of_lt_of_le hS.2 Ux0.out.out) (by omega) (by have := HM0.out; omega)).mono ?_
  rintro e mx0 ⟨rfl, hs, hc⟩
  have HSx0_ := Lib.hid hs; clear hs HSx0; have HSx0 := HSx0_; clear HSx0_
  have HBmx0 := Lib.hid (HBu0.out.trans (hc.below HBu0.out.size (fun b hS => Nat.le_trans (by have h1 := LWx0.out.out; exact h1) hS.1)))
  have HVmx0 := Lib.hid (HVu0.out.trans (hc.below HVu0.out.size (fun b hS => Nat.le_trans (by have h1 := LVx0.out.out; exact h1) hS.1)))
  have Zmx0 : Hid (u0.heap.size ≤ mx0.heap.size) := hc.size
  have HSg0_ := Lib.hid (HSg0.out.keep (fun b hS => hc.block b (Nat.lt_of_lt_of_le hS.2 (by have h1 := Ug0.out.out; exact h1)) (fun hS2 => by have h1 := ORD_x0_g0.out; have h2 := hS.1; have h3 := hS.2; have h4 := hS2.1; have h5 := hS2.2; omega))); clear HSg0; have HSg0 := HSg0_; clear HSg0_
  have Ux0_ : Hid (Hid (wx0.heap.size ≤ mx0.heap.size)) := (show _ ≤ _ from Nat.le_trans Ux0.out.out Zmx0.out); clear Ux0; have Ux0 := Ux0_; clear Ux0_
  have Ug0_ : Hid (Hid (vg.heap.size ≤ mx0.heap.size)) := (show _ ≤ _ from Nat.le_trans Ug0.out.out Zmx0.out); clear Ug0; have Ug0 := Ug0_; clear Ug0_
  clear hc
  have kpos : decide (1 + (ct_SFraction a0 : Int) < 0) = false := decide_eq_false (by omega)
  go_wp2_with fail
  refine (eq_SFraction_c _ _ _ _ (reduce a0).1 (reduce a0).1 _ (by exact HSg0.out.sl.more fun b hS => Nat.lt_of_lt_of_le hS.2 Ug0.out.out) (by exact (HW0.out.keep (fun b hS => HVmx0.out.cell hS)).more fun b hS => Nat.lt_of_lt_of_le hS HVmx0.out.size)).mono ?_
  rintro e q20 ⟨rfl, hb⟩
  rw [eq_SFraction_refl]
  have HBq20 := Lib.hid (below_trans HBmx0.out hb)
  have HVq20 := Lib.hid (HVmx0.out.trans (hb.mono HVmx0.out.size))
  have Zq20 : Hid (mx0.heap.size ≤ q20.heap.size) := hb.size
  have HSx0_ := Lib.hid (HSx0.out.keep (fun b hS => hb.block b (Nat.lt_of_lt_of_le hS.2 (by have h1 := Ux0.out.out; exact h1)))); clear HSx0; have HSx0 := HSx0_; clear HSx0_
  have HSg0_ := Lib.hid (HSg0.out.keep (fun b hS => hb.block b (Nat.lt_of_lt_of_le hS.2 (by have h1 := Ug0.out.out; exact h1)))); clear HSg0; have HSg0 := HSg0_; clear HSg0_
  have Ux0_ : Hid (Hid (wx0.heap.size ≤ q20.heap.size)) := (show _ ≤ _ from Nat.le_trans Ux0.out.out Zq20.out); clear Ux0; have Ux0 := Ux0_; clear Ux0_
  have Ug0_ : Hid (Hid (vg.heap.size ≤ q20.heap.size)) := (show _ ≤ _ from Nat.le_trans Ug0.out.out Zq20.out); clear Ug0; have Ug0 := Ug0_; clear Ug0_
  clear hb
  go_wp2_with fail
  refine (mark_SFraction_c _ _ (reduce a0).1 _ _ _ HSg0.out (fun b hS => Nat.lt_of_lt_of_le hS.2 Ug0.out.out) (by omega) (by have := HN0.out; omega)).mono ?_
  rintro e mg0 ⟨rfl, hs, hc⟩
  have HSg0_ := Lib.hid hs; clear hs HSg0; have HSg0 := HSg0_; clear HSg0_
  have HBmg0 := Lib.hid (HBq20.out.trans (hc.below HBq20.out.size (fun b hS => Nat.le_trans (by have h1 := LWg0.out.out; exact h1) hS.1)))
  have HVmg0 := Lib.hid (HVq20.out.trans (hc.below HVq20.out.size (fun b hS => Nat.le_trans (by have h1 := LVg0.out.out; exact h1) hS.1)))
  have Zmg0 : Hid (q20.heap.size ≤ mg0.heap.size) := hc.size
  have HSx0_ := Lib.hid (HSx0.out.keep (fun b hS => hc.block b (Nat.lt_of_lt_of_le hS.2 (by have h1 := Ux0.out.out; exact h1)) (fun hS2 => by have h1 := ORD_x0_g0.out; have h2 := hS.1; have h3 := hS.2; have h4 := hS2.1; have h5 := hS2.2; omega))); clear HSx0; have HSx0 := HSx0_; clear HSx0_
  have Ux0_ : Hid (Hid (wx0.heap.size ≤ mg0.heap.size)) := (show _ ≤ _ from Nat.le_trans Ux0.out.out Zmg0.out); clear Ux0; have Ux0 := Ux0_; clear Ux0_
  have Ug0_ : Hid (Hid (vg.heap.size ≤ mg0.heap.size)) := (show _ ≤ _ from Nat.le_trans Ug0.out.out Zmg0.out); clear Ug0; have Ug0 := Ug0_; clear Ug0_
  clear hc
  have gl0 : (mk_SFraction (reduce a0).1 1).length = (reduce a0).1.length := mkL_len _ _ _ _
  go_wp2_with fail
  refine (held_SFraction_c _ _ (reduce a0).1 _ _ (by exact HSg0.out.sl.more fun b hS => Nat.lt_of_lt_of_le hS.2 Ug0.out.out) (by omega) (by have := HN0.out; omega)).mono ?_
  rintro e d0 ⟨rfl, hb⟩
  have HBd0 := Lib.hid (below_trans HBmg0.out hb)
  have HVd0 := Lib.hid (HVmg0.out.trans (hb.mono HVmg0.out.size))
  have Zd0 : Hid (mg0.heap.size ≤ d0.heap.size) := hb.size
  have HSx0_ := Lib.hid (HSx0.out.keep (fun b hS => hb.block b (Nat.lt_of_lt_of_le hS.2 (by have h1 := Ux0.out.out; exact h1)))); clear HSx0; have HSx0 := HSx0_; clear HSx0_
  have HSg0_ := Lib.hid (HSg0.out.keep (fun b hS => hb.block b (Nat.lt_of_lt_of_le hS.2 (by have h1 := Ug0.out.out; exact h1)))); clear HSg0; have HSg0 := HSg0_; clear HSg0_
  have Ux0_ : Hid (Hid (wx0.heap.size ≤ d0.heap.size)) := (show _ ≤ _ from Nat.le_trans Ux0.out.out Zd0.out); clear Ux0; have Ux0 := Ux0_; clear Ux0_
  have Ug0_ : Hid (Hid (vg.heap.size ≤ d0.heap.size)) := (show _ ≤ _ from Nat.le_trans Ug0.out.out Zd0.out); clear Ug0; have Ug0 := Ug0_; clear Ug0_
  clear hb
  have mpos : ¬ (1 + (ct_SFraction (reduce a0).1 : Int)) < 0 := by omega
  go_wp2_with fail
  refine (to_FractionS _ _ a0 _ (by exact H0.out.on HBd0.out) HC0.out).mono ?_
  rintro e wt0 ⟨At0, ct0, rfl, hs, hb⟩
  have HSt0 := Lib.hid hs; clear hs
  have PUx0 := Ux0
  have PUg0 := Ug0
  have HBwt0 := Lib.hid (below_trans HBd0.out hb)
  have HVwt0 := Lib.hid (HVd0.out.trans (hb.mono HVd0.out.size))
  have Zwt0 : Hid (d0.heap.size ≤ wt0.heap.size) := hb.size
  have HSx0_ := Lib.hid (HSx0.out.keep (fun b hS => hb.block b (Nat.lt_of_lt_of_le hS.2 (by have h1 := Ux0.out.out; exact h1)))); clear HSx0; have HSx0 := HSx0_; clear HSx0_
  have HSg0_ := Lib.hid (HSg0.out.keep (fun b hS => hb.block b (Nat.lt_of_lt_of_le hS.2 (by have h1 := Ug0.out.out; exact h1)))); clear HSg0; have HSg0 := HSg0_; clear HSg0_
  have Ux0_ : Hid (Hid (wx0.heap.size ≤ wt0.heap.size)) := (show _ ≤ _ from Nat.le_trans Ux0.out.out Zwt0.out); clear Ux0; have Ux0 := Ux0_; clear Ux0_
  have Ug0_ : Hid (Hid (vg.heap.size ≤ wt0.heap.size)) := (show _ ≤ _ from Nat.le_trans Ug0.out.out Zwt0.out); clear Ug0; have Ug0 := Ug0_; clear Ug0_
  clear hb
  have Ut0 : Hid (Hid (wt0.heap.size ≤ wt0.heap.size)) := (Nat.le_refl _ : _)
  have ORD_x0_t0 : Hid (wx0.heap.size ≤ d0.heap.size) := PUx0.out.out
  have ORD_g0_t0 : Hid (vg.heap.size ≤ d0.heap.size) := PUg0.out.out
  have LVt0 : Hid (Hid (v0.heap.size ≤ d0.heap.size)) := (show _ ≤ _ from HVd0.out.size)
  have LWt0 : Hid (Hid (w.heap.size ≤ d0.heap.size)) := (show _ ≤ _ from HBd0.out.size)
  clear PUx0 PUg0
  go_wp2_with fail
  refine (impl_ReduceFractions _ _ a0 _ (by exact HSt0.out.sl.more fun b hS => Nat.lt_of_lt_of_le hS.2 Ut0.out.out)).mono ?_
  rintro e vh ⟨Ah0, ch0, rfl, hs0, hb⟩
  clear HSt0 Ut0
  have HSh0 := Lib.hid hs0; clear hs0
  have HBvh := Lib.hid (below_trans HBwt0.out hb)
  have HVvh := Lib.hid (HVwt0.out.trans (hb.mono HVwt0.out.size))
  have Zvh : Hid (wt0.heap.size ≤ vh.heap.size) := hb.size
  have HSx0_ := Lib.hid (HSx0.out.keep (fun b hS => hb.block b (Nat.lt_of_lt_of_le hS.2 (by have h1 := Ux0.out.out; exact h1)))); clear HSx0; have HSx0 := HSx0_; clear HSx0_
  have HSg0_ := Lib.hid (HSg0.out.keep (fun b hS => hb.block b (Nat.lt_of_lt_of_le hS.2 (by have h1 := Ug0.out.out; exact h1)))); clear HSg0; have HSg0 := HSg0_; clear HSg0_
  have Ux0_ : Hid (Hid (wx0.heap.size ≤ vh.heap.size)) := (show _ ≤ _ from Nat.le_trans Ux0.out.out Zvh.out); clear Ux0; have Ux0 := Ux0_; clear Ux0_
  have Ug0_ : Hid (Hid (vg.heap.size ≤ vh.heap.size)) := (show _ ≤ _ from Nat.le_trans Ug0.out.out Zvh.out); clear Ug0; have Ug0 := Ug0_; clear Ug0_
  clear hb
  go_wp2_with fail
  refine (eq_SFraction_c _ _ _ _ (reduce a0).1 (reduce a0).1 _ (by exact HSh0.out.old) (by exact (HW0.out.keep (fun b hS => HVvh.out.cell hS)).more fun b hS => Nat.lt_of_lt_of_le hS HVvh.out.size)).mono ?_
  rintro e q30 ⟨rfl, hb⟩
  rw [eq_SFraction_refl]
  have HBq30 := Lib.hid (below_trans HBvh.out hb)
  have HVq30 := Lib.hid (HVvh.out.trans (hb.mono HVvh.out.size))
  have Zq30 : Hid (vh.heap.size ≤ q30.heap.size) := hb.size
  have HSx0_ := Lib.hid (HSx0.out.keep (fun b hS => hb.block b (Nat.lt_of_lt_of_le hS.2 (by have h1 := Ux0.out.out; exact h1)))); clear HSx0; have HSx0 := HSx0_; clear HSx0_
  have HSg0_ := Lib.hid (HSg0.out.keep (fun b hS => hb.block b (Nat.lt_of_lt_of_le hS.2 (by have h1 := Ug0.out.out; exact h1)))); clear HSg0; have HSg0 := HSg0_; clear HSg0_
  have Ux0_ : Hid (Hid (wx0.heap.size ≤ q30.heap.size)) := (show _ ≤ _ from Nat.le_trans Ux0.out.out Zq30.out); clear Ux0; have Ux0 := Ux0_; clear Ux0_
  have Ug0_ : Hid (Hid (vg.heap.size ≤ q30.heap.size)) := (show _ ≤ _ from Nat.le_trans Ug0.out.out Zq30.out); clear Ug0; have Ug0 := Ug0_; clear Ug0_
  clear hb
  go_wp2_with fail
  refine (held_SFraction_c _ _ (reduce a0).1 _ _ (by exact HSg0.out.sl.more fun b hS => Nat.lt_of_lt_of_le hS.2 Ug0.out.out) (by omega) (by have := HN0.out; omega)).mono ?_
  rintro e e0 ⟨rfl, hb⟩
  have HBe0 := Lib.hid (below_trans HBq30.out hb)
  have HVe0 := Lib.hid (HVq30.out.trans (hb.mono HVq30.out.size))
  have Ze0 : Hid (q30.heap.size ≤ e0.heap.size) := hb.size
  have HSx0_ := Lib.hid (HSx0.out.keep (fun b hS => hb.block b (Nat.lt_of_lt_of_le hS.2 (by have h1 := Ux0.out.out; exact h1)))); clear HSx0; have HSx0 := HSx0_; clear HSx0_
  have HSg0_ := Lib.hid (HSg0.out.keep (fun b hS => hb.block b (Nat.lt_of_lt_of_le hS.2 (by have h1 := Ug0.out.out; exact h1)))); clear HSg0; have HSg0 := HSg0_; clear HSg0_
  have Ux0_ : Hid (Hid (wx0.heap.size ≤ e0.heap.size)) := (show _ ≤ _ from Nat.le_trans Ux0.out.out Ze0.out); clear Ux0; have Ux0 := Ux0_; clear Ux0_
  have Ug0_ : Hid (Hid (vg.heap.size ≤ e0.heap.size)) := (show _ ≤ _ from Nat.le_trans Ug0.out.out Ze0.out); clear Ug0; have Ug0 := Ug0_; clear Ug0_
  clear hb
  go_wp2
  go_ret
  exact ⟨rfl, HBe0.out⟩

end Go.Proofs.Ytlnakbbngidogaa
