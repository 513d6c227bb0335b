/- What the proof of FnExactValidTurn needs: contracts of the functions that it reaches, each once. -/
import Derived.Test.YtlnakbbngidogaaProg
import Derived.Test.YtlnakbbngidogaaQMem
import Derived.WalkKit
import Derived.WalkSpells
import Derived.Below
import Derived.LoopTactic
import Derived.Outline
import Derived.Deep.QuietTactic
import Derived.BigQuiet
import Derived.Deep.LoopGhost
import Derived.Handy
import Derived.Lib.Hide
import Derived.Shelf.Abstract
import Derived.StillTailTactics
import Derived.OwnWalk
import Derived.Maps.AppendAt
import Derived.RegionTactic
import Derived.Deep.RegionHeld3
namespace Go.Proofs.Ytlnakbbngidogaa
open Go.RowKit

abbrev tTurn : Type := Int × (List Int)

abbrev eTurn : Enc tTurn := (ePr eInt (eSl eInt))

theorem shape_Turn {w : World} {S : Nat → Prop} {es : List Value} {x : tTurn} (h : eTurn.R w S es x) : ∃ A1 c1, es = [.int .i64 x.1, .slice A1 x.2.length c1] ∧ I64 x.1 ∧ Sl eInt w S A1 c1 x.2 := by
  obtain ⟨_, _, rfl, ⟨rfl, h0⟩, ⟨A1, c1, rfl, h1⟩⟩ := h
  exact ⟨A1, c1, rfl, h0, h1⟩

abbrev tCyclic : Type := (List (List Int))

abbrev eCyclic : Enc tCyclic := (eSl (eSl eInt))

theorem shape_Cyclic {w : World} {S : Nat → Prop} {es : List Value} {x : tCyclic} (h : eCyclic.R w S es x) : ∃ A0 c0, es = [.slice A0 x.length c0] ∧ Sl (eSl eInt) w S A0 c0 x := by
  obtain ⟨A0, c0, rfl, h0⟩ := h
  exact ⟨A0, c0, rfl, h0⟩

theorem any_hit {α : Type} {p : α → Bool} {xs : List α} {k : Nat} (hk : k < xs.length) (h : p xs[k] = true) : xs.any p = true :=
  List.any_eq_true.2 ⟨_, List.getElem_mem hk, h⟩

theorem any_step {α : Type} {p : α → Bool} {xs : List α} {k : Nat} (hk : k < xs.length) (h0 : (xs.take k).any p = false) (h : p xs[k] = false) : (xs.take (k + 1)).any p = false := by
  rw [List.take_succ_eq_append_getElem hk, List.any_append, h0]; simp [h]

/-- Equality of two lists, element by element. -/
def eqL {α : Type} (p : α → α → Bool) : List α → List α → Bool
  | [], [] => true
  | x :: xs, y :: ys => p x y && eqL p xs ys
  | _, _ => false

theorem eqL_refl {α : Type} {p : α → α → Bool} (hp : ∀ x, p x x = true) : ∀ xs : List α, eqL p xs xs = true
  | [] => rfl
  | x :: xs => by rw [eqL, hp, eqL_refl hp xs]; rfl

theorem eqL_len {α : Type} {p : α → α → Bool} : ∀ (xs ys : List α), xs.length ≠ ys.length → eqL p xs ys = false
  | [], [], h => absurd rfl h
  | [], _ :: _, _ => rfl
  | _ :: _, [], _ => rfl
  | x :: xs, y :: ys, h => by rw [eqL, eqL_len xs ys (by simpa using h)]; simp

theorem eqL_get {α : Type} {p : α → α → Bool} : ∀ (xs ys : List α) (k : Nat) (h1 : k < xs.length) (h2 : k < ys.length), p xs[k] ys[k] = false → eqL p xs ys = false
  | x :: xs, y :: ys, 0, _, _, h => by rw [eqL]; simp at h; rw [h]; rfl
  | x :: xs, y :: ys, k + 1, h1, h2, h => by rw [eqL, eqL_get xs ys k (by simpa using h1) (by simpa using h2) (by simpa using h)]; simp

theorem eqL_all {α : Type} {p : α → α → Bool} : ∀ (xs ys : List α), xs.length = ys.length → (∀ k (h1 : k < xs.length) (h2 : k < ys.length), p xs[k] ys[k] = true) → eqL p xs ys = true
  | [], [], _, _ => rfl
  | x :: xs, y :: ys, hl, h => by
    have e : p x y = true := h 0 (Nat.zero_lt_succ _) (Nat.zero_lt_succ _)
    have e' : eqL p xs ys = true := eqL_all xs ys (by simpa using hl) fun k h1 h2 => h (k + 1) (Nat.succ_lt_succ h1) (Nat.succ_lt_succ h2)
    rw [eqL, e, e']; rfl
  | [], _ :: _, hl, _ => by simp at hl
  | _ :: _, [], hl, _ => by simp at hl

theorem ret_bool {a b : Bool} (h : a = b) : Ending.returned (.bool a) = .returned (.bool b) := by rw [h]

def withinB (n lo hi : Int) : Bool := decide (lo ≤ n) && decide (n ≤ hi)

theorem withinB_true {n lo hi : Int} : withinB n lo hi = true ↔ lo ≤ n ∧ n ≤ hi := by
  unfold withinB; simp

theorem withinB_false {n lo hi : Int} : withinB n lo hi = false ↔ n < lo ∨ hi < n := by
  unfold withinB; simp; omega

theorem impl_within (n lo hi : Int) (w : World) :
    Calls Try.prog 72 #[.int .i64 n, .int .i64 lo, .int .i64 hi] w fun e w' => e = .returned (.bool (withinB n lo hi)) ∧ w = w' := by
  unfold withinB
  by_cases h1 : lo ≤ n
  · go_enter Try.func72, Try.ntmps72
    go_wp2
    go_ret
    exact ⟨by first | (simp; done) | simp [h1], rfl⟩
  · have h2 : decide (lo ≤ n) = false := by simpa using h1
    go_enter Try.func72, Try.ntmps72
    go_wp2
    go_ret
    exact ⟨by first | (simp; done) | simp [h2], rfl⟩

theorem spec_l00In (n lo hi : Int) (w : World) :
    Calls Try.prog 119 #[.int .i64 n, .int .i64 lo, .int .i64 hi] w fun e w' => e = .returned (.bool (withinB n lo hi)) ∧ w = w' := by
  unfold withinB
  by_cases h1 : lo ≤ n
  · go_enter Try.func119, Try.ntmps119
    go_wp2
    go_ret
    exact ⟨by first | (simp; done) | simp [h1], rfl⟩
  · have h2 : decide (lo ≤ n) = false := by simpa using h1
    go_enter Try.func119, Try.ntmps119
    go_wp2
    go_ret
    exact ⟨by first | (simp; done) | simp [h2], rfl⟩

theorem impl_size_Int64S (a : Option Addr) (n c : Nat) (w : World) :
    Calls Try.prog 96 #[.slice a n c] w fun e w' => e = .returned (.int .i64 n) ∧ w = w' := by
  go_enter Try.func96, Try.ntmps96
  go_wp2
  go_ret
  exact ⟨rfl, rfl⟩

set_option maxHeartbeats 400000 in
theorem IndexFunc_Int64S (p : (List Int) → Bool) (g : Nat) (lb : Array Value) (A : Option Addr) (c : Nat) (xs : List (List Int)) (w : World) (h : Sl (eSl eInt) w (Old w) A c xs)
    (eg : ∀ args w, (callFunc g args).run Try.prog w = .ok (.enter g args) w) (hp : ∀ W x es, x ∈ xs → Below w.heap.size w W → (eSl eInt).R W (Old W) es x → Calls Try.prog g (#[es[0]!] ++ lb) W fun e w' => e = .returned (.bool (p x)) ∧ Below W.heap.size W w') :
    Calls Try.prog 155 #[.slice A xs.length c, .func (.func g) #[] lb] w fun e w' => (∃ r : Int, e = .returned (.int .i64 r) ∧ decide (0 ≤ r) = xs.any p) ∧ Below w.heap.size w w' := by
  have hlen := h.len
  have H := Lib.hid h; clear h
  have HP := Lib.hid hp; clear hp
  go_enter Try.func155, Try.ntmps155
  go_wp2
  go_loopg [5, 8] xs.length (fun gg _ s8 wr => ∃ k : Nat, k ≤ xs.length ∧ xs.length - k ≤ gg ∧ s8 = .int .i64 k ∧ Hid (Below w.heap.size w wr) ∧ Hid ((xs.take k).any p = false))
  case atStart => exact ⟨0, Nat.zero_le _, by omega, rfl, Below.refl _ w, rfl⟩
  case round =>
    obtain ⟨k, hk, hg, rfl, BW, HN⟩ := hrel
    by_cases hlt : k < xs.length
    · have hltz : (k : Int) < (xs.length : Int) := by omega
      obtain ⟨b, off, es, rfl, hb, hR, hc⟩ := H.out.at1 rfl hlt
      have hcall := HP.out wr xs[k] _ (List.getElem_mem hlt) BW.out ((eSl eInt).on hR BW.out)
      obtain ⟨Aq, cq, rfl, gq⟩ := hR
      have d0 : wr.cell? ⟨b, off + k, none⟩ = some (.slice Aq xs[k].length cq) := (below_olds BW.out _ hb).trans (hc _ rfl)
      clear hc gq
      try clear hR
      have HQ1 : Hid (p xs[k] = true → xs.any p = true) := any_hit hlt
      have HQ0 : Hid (p xs[k] = false → (xs.take (k + 1)).any p = false) := any_step hlt HN.out
      generalize xs[k] = y at d0 hcall HQ1 HQ0
      cases hq : p y with
      | true =>
        rw [hq] at hcall
        have HQ := Lib.hid (HQ1.out hq); clear hq HQ1 HQ0
        go_wp2_with (go_at_fn g; refine hcall.mono ?_; rintro e w' ⟨rfl, hb'⟩)
        go_ret
        exact ⟨⟨k, rfl, by rw [HQ.out]; simp⟩, below_trans BW.out hb'⟩
      | false =>
        rw [hq] at hcall
        have HQ := Lib.hid (HQ0.out hq); clear hq HQ1 HQ0
        go_wp2_with (go_at_fn g; refine hcall.mono ?_; rintro e w' ⟨rfl, hb'⟩)
        go_roundg (xs.length - (k + 1))
        case measure => omega
        case rel => exact ⟨k + 1, by omega, by omega, by go_num, below_trans BW.out hb', HQ.out⟩
    · have hltz : ¬ (k : Int) < (xs.length : Int) := by omega
      obtain rfl : k = xs.length := by omega
      go_wp2
      go_ret
      refine ⟨⟨-1, rfl, ?_⟩, BW.out⟩
      have := HN.out
      rw [List.take_length] at this
      rw [this]; rfl

theorem ContainsFunc_Int64S (p : (List Int) → Bool) (g : Nat) (lb : Array Value) (A : Option Addr) (c : Nat) (xs : List (List Int)) (w : World) (h : Sl (eSl eInt) w (Old w) A c xs)
    (eg : ∀ args w, (callFunc g args).run Try.prog w = .ok (.enter g args) w) (hp : ∀ W x es, x ∈ xs → Below w.heap.size w W → (eSl eInt).R W (Old W) es x → Calls Try.prog g (#[es[0]!] ++ lb) W fun e w' => e = .returned (.bool (p x)) ∧ Below W.heap.size W w') :
    Calls Try.prog 139 #[.slice A xs.length c, .func (.func g) #[] lb] w fun e w' => e = .returned (.bool (xs.any p)) ∧ Below w.heap.size w w' := by
  have hI := Lib.hid (IndexFunc_Int64S p g lb A c xs w h eg hp); clear h hp eg
  go_enter Try.func139, Try.ntmps139
  go_wp2_with (go_at_call 155; refine hI.out.mono ?_; rintro e w' ⟨⟨r, rfl, hr⟩, hb⟩; have HR := Lib.hid hr; clear hr)
  go_ret
  exact ⟨by rw [← HR.out]; rfl, hb⟩

def costL {α : Type} (f : α → Nat) (xs : List α) : Nat := xs.length + (xs.map f).sum

theorem costL_take {α : Type} (f : α → Nat) (xs : List α) (k : Nat) (h : k < xs.length) : ((xs.take (k + 1)).map f).sum = ((xs.take k).map f).sum + f xs[k] := by
  rw [List.take_succ_eq_append_getElem h, List.map_append, List.sum_append]; simp only [List.map_cons, List.map_nil, List.sum_cons, List.sum_nil, Nat.add_zero]

theorem cost_le {α : Type} (f : α → Nat) (xs : List α) (k : Nat) : ((xs.take k).map f).sum ≤ (xs.map f).sum := by
  have h : (xs.map f).sum = ((xs.take k).map f).sum + ((xs.drop k).map f).sum := by
    rw [← List.sum_append, ← List.map_append, List.take_append_drop]
  omega

/-- What the size functions of the laws answer. -/
def left (l : Int) (n : Nat) : Int := if l - n < 0 then -1 else l - n

theorem left_neg {l : Int} {n : Nat} (h : l - n < 0) : left l n = -1 := if_pos h

theorem left_pos {l : Int} {n : Nat} (h : ¬ l - n < 0) : left l n = l - n := if_neg h

def cost_L (xs : List Int) : Nat := xs.length

def cost_Turn (x : tTurn) : Nat := cost_L x.2

def cost_LL (xs : List (List Int)) : Nat := costL cost_L xs

def cost_Cyclic (x : tCyclic) : Nat := cost_LL x

theorem sz_Int64S (A : Option Addr) (c : Nat) (xs : List Int) (l : Int) (w : World) (h : Sl eInt w (Old w) A c xs) (h0 : 0 ≤ l) (h1 : l ≤ 1048576) :
    Calls Try.prog 115 #[.slice A xs.length c, .int .i64 l] w fun e w' => e = .returned (.int .i64 (left l (cost_L xs))) ∧ Below w.heap.size w w' := by
  have hlen := h.len
  clear h
  unfold cost_L
  by_cases hl : l - xs.length < 0
  · rw [left_neg hl]
    go_enter Try.func115, Try.ntmps115
    go_wp2
    go_ret
    exact ⟨rfl, Below.refl _ _⟩
  · rw [left_pos hl]
    go_enter Try.func115, Try.ntmps115
    go_wp2
    go_ret
    exact ⟨rfl, Below.refl _ _⟩

set_option maxHeartbeats 1000000 in
theorem sz_Int64SS (A : Option Addr) (c : Nat) (xs : List (List Int)) (l : Int) (w : World) (h : Sl (eSl eInt) w (Old w) A c xs) (h0 : 0 ≤ l) (h1 : l ≤ 1048576) :
    Calls Try.prog 93 #[.slice A xs.length c, .int .i64 l] w fun e w' => e = .returned (.int .i64 (left l (cost_LL xs))) ∧ Below w.heap.size w w' := by
  have hlen := h.len
  have H := Lib.hid h; clear h
  have HC : Hid (cost_LL xs = xs.length + (xs.map cost_L).sum) := rfl
  by_cases hl : l - xs.length < 0
  · rw [left_neg (by rw [HC.out]; omega)]
    go_enter Try.func93, Try.ntmps93
    go_wp2
    go_ret
    exact ⟨rfl, Below.refl _ _⟩
  · go_enter Try.func93, Try.ntmps93
    go_wp2
    go_loopw [1, 5] (fun s1 s5 wr => ∃ (k : Nat) (m : Int), k ≤ xs.length ∧ s5 = .int .i64 k ∧ s1 = .int .i64 m ∧ 0 ≤ m ∧ m ≤ 1048576 ∧ Hid (m = l - xs.length - ((xs.take k).map cost_L).sum) ∧ Hid (Below w.heap.size w wr)) (fun _ s5 _ => xs.length - (intOf s5).toNat)
    case atStart => exact ⟨0, _, Nat.zero_le _, rfl, rfl, by omega, by omega, by show _ = _; simp, Below.refl _ w⟩
    case round =>
      obtain ⟨k, m, hk, rfl, rfl, hm0, hm1, HM, BW⟩ := hrel
      by_cases hlt : k < xs.length
      · have hltz : (k : Int) < (xs.length : Int) := by omega
        obtain ⟨b, off, es, rfl, hb, hR, hc⟩ := H.out.at1 rfl hlt
        have HS := Lib.hid (costL_take cost_L xs k hlt)
        have HLE := Lib.hid (cost_le cost_L xs (k + 1))
        obtain ⟨Aq, cq, rfl, gq⟩ := hR
        have d0 : wr.cell? ⟨b, off + k, none⟩ = some (.slice Aq xs[k].length cq) := (below_olds BW.out _ hb).trans (hc _ rfl)
        have HC2 := Lib.hid fun l h0 h1 => sz_Int64S _ _ xs[k] l wr (gq.on BW.out) h0 h1
        clear hc gq
        try clear hR
        generalize xs[k] = y at d0 HC2 HS
        by_cases hz : m - cost_L y < 0
        · go_wp2_with fail
          refine (HC2.out m hm0 hm1).mono ?_
          rintro e w2 ⟨rfl, hb2⟩
          rw [left_neg (by omega)]
          go_wp2
          go_ret
          exact ⟨by rw [left_neg (by rw [HC.out]; have := HM.out; have := HS.out; have := HLE.out; omega)]; rfl, below_trans BW.out hb2⟩
        · have hz1 : 0 ≤ m - cost_L y := by omega
          go_wp2_with fail
          refine (HC2.out m hm0 hm1).mono ?_
          rintro e w2 ⟨rfl, hb2⟩
          rw [left_pos (by omega)]
          go_wp2
          go_roundw
          case rel => exact ⟨k + 1, m - cost_L y, by omega, by go_num, rfl, by omega, by omega, by show _ = _; have := HM.out; have := HS.out; omega, below_trans BW.out hb2⟩
          case measure => simp [intOf]; omega
      · have hltz : ¬ (k : Int) < (xs.length : Int) := by omega
        obtain rfl : k = xs.length := by omega
        go_wp2
        go_ret
        have h2 := HM.out
        rw [List.take_length] at h2
        exact ⟨by rw [left_pos (by rw [HC.out]; omega), HC.out, show l - ((xs.length + (xs.map cost_L).sum : Nat) : Int) = m from by omega]; rfl, BW.out⟩

set_option maxHeartbeats 1000000 in
theorem sz_Turn (es : List Value) (x : tTurn) (l : Int) (w : World) (h : eTurn.R w (Old w) es x) (h0 : 0 ≤ l) (h1 : l ≤ 1048576) :
    Calls Try.prog 51 #[.agg es.toArray, .int .i64 l] w fun e w' => e = .returned (.int .i64 (left l (cost_Turn x))) ∧ Below w.heap.size w w' := by
  obtain ⟨A1, c1, rfl, g0, g1⟩ := shape_Turn h
  have HT : Hid (cost_Turn x = cost_L x.2) := rfl
  have HB0 := Lib.hid ((Below.refl w.heap.size w).alloc (Nat.le_refl _) (.cells #[.int .i64 x.1, .slice A1 x.2.length c1] 70))
  have K1 := Lib.hid (g1.on HB0.out); clear g1
  clear g0
  by_cases t0 : l - (cost_L x.2 : Nat) < 0
  · rw [left_neg (by rw [HT.out]; omega)]
    go_enter Try.func51, Try.ntmps51
    go_wp2_with fail
    refine (sz_Int64S _ _ x.2 _ _ K1.out (by omega) (by omega)).mono ?_
    rintro e w1 ⟨rfl, hb⟩
    rw [left_neg (by omega)]
    have HB1 := Lib.hid hb
    clear hb
    obtain ⟨hc, hf⟩ := bcell HB1.out
    go_wp2
    go_ret
    exact ⟨rfl, HB0.out.trans (HB1.out.mono HB0.out.size)⟩
  rw [left_pos (by rw [HT.out]; omega), show l - ((cost_Turn x : Nat) : Int) = l - (cost_L x.2 : Nat) from by rw [HT.out]; first | done | omega]
  go_enter Try.func51, Try.ntmps51
  go_wp2_with fail
  refine (sz_Int64S _ _ x.2 _ _ K1.out (by omega) (by omega)).mono ?_
  rintro e w1 ⟨rfl, hb⟩
  rw [left_pos (by omega)]
  have HB1 := Lib.hid hb
  clear hb
  obtain ⟨hc, hf⟩ := bcell HB1.out
  go_wp2
  go_ret
  exact ⟨rfl, HB0.out.trans (HB1.out.mono HB0.out.size)⟩

set_option maxHeartbeats 1000000 in
theorem sz_Cyclic (es : List Value) (x : tCyclic) (l : Int) (w : World) (h : eCyclic.R w (Old w) es x) (h0 : 0 ≤ l) (h1 : l ≤ 1048576) :
    Calls Try.prog 32 #[.agg es.toArray, .int .i64 l] w fun e w' => e = .returned (.int .i64 (left l (cost_Cyclic x))) ∧ Below w.heap.size w w' := by
  obtain ⟨A0, c0, rfl, g0⟩ := shape_Cyclic h
  have HT : Hid (cost_Cyclic x = cost_LL x) := rfl
  have HB0 := Lib.hid ((Below.refl w.heap.size w).alloc (Nat.le_refl _) (.cells #[.slice A0 x.length c0] 45))
  have K0 := Lib.hid (g0.on HB0.out); clear g0
  by_cases t0 : l - (cost_LL x : Nat) < 0
  · rw [left_neg (by rw [HT.out]; omega)]
    go_enter Try.func32, Try.ntmps32
    go_wp2_with fail
    refine (sz_Int64SS _ _ x _ _ K0.out (by omega) (by omega)).mono ?_
    rintro e w1 ⟨rfl, hb⟩
    rw [left_neg (by omega)]
    have HB1 := Lib.hid hb
    clear hb
    obtain ⟨hc, hf⟩ := bcell HB1.out
    go_wp2
    go_ret
    exact ⟨rfl, HB0.out.trans (HB1.out.mono HB0.out.size)⟩
  rw [left_pos (by rw [HT.out]; omega), show l - ((cost_Cyclic x : Nat) : Int) = l - (cost_LL x : Nat) from by rw [HT.out]; first | done | omega]
  go_enter Try.func32, Try.ntmps32
  go_wp2_with fail
  refine (sz_Int64SS _ _ x _ _ K0.out (by omega) (by omega)).mono ?_
  rintro e w1 ⟨rfl, hb⟩
  rw [left_pos (by omega)]
  have HB1 := Lib.hid hb
  clear hb
  obtain ⟨hc, hf⟩ := bcell HB1.out
  go_wp2
  go_ret
  exact ⟨rfl, HB0.out.trans (HB1.out.mono HB0.out.size)⟩

def eq_i (x y : Int) : Bool := x == y

def eq_L (x y : List Int) : Bool := eqL eq_i x y

def eq_LL (x y : List (List Int)) : Bool := eqL eq_L x y

theorem eq_i_refl (x : Int) : eq_i x x = true := by simp [eq_i]

theorem eq_L_refl (x : List Int) : eq_L x x = true := eqL_refl eq_i_refl x

theorem eq_LL_refl (x : List (List Int)) : eq_LL x x = true := eqL_refl eq_L_refl x

def eq_Turn (x y : tTurn) : Bool := eq_i x.1 y.1 && eq_L x.2 y.2

theorem eq_Turn_refl (x : tTurn) : eq_Turn x x = true := by unfold eq_Turn; simp [eq_L_refl, eq_i_refl]

def eq_Cyclic (x y : tCyclic) : Bool := eq_LL x y

theorem eq_Cyclic_refl (x : tCyclic) : eq_Cyclic x x = true := by unfold eq_Cyclic; simp [eq_LL_refl]

set_option maxRecDepth 100000 in
set_option maxHeartbeats 1000000 in
theorem eq_L_c (A A' : Option Addr) (c c' : Nat) (xs ys : List Int) (w : World) (h : Sl eInt w (Old w) A c xs) (h' : Sl eInt w (Old w) A' c' ys) :
    Calls Try.prog 79 #[.slice A xs.length c, .slice A' ys.length c'] w fun e w' => e = .returned (.bool (eq_L xs ys)) ∧ Below w.heap.size w w' := by
  have hlen := h.len
  have hlen' := h'.len
  unfold eq_L
  by_cases hne : xs.length = ys.length
  · have hne' : ((xs.length : Int) != (ys.length : Int)) = false := by simp [hne]
    have HE := Lib.hid hne; clear hne
    have H := Lib.hid h; clear h
    have H' := Lib.hid h'; clear h'
    go_enter Try.func79, Try.ntmps79
    go_wp2
    clear hne'
    go_loopw [5] (fun s5 wr => ∃ k : Nat, k ≤ xs.length ∧ s5 = .int .i64 k ∧ Hid (Below w.heap.size w wr) ∧ Hid (∀ j (h1 : j < xs.length) (h2 : j < ys.length), j < k → eq_i xs[j] ys[j] = true)) (fun s5 _ => xs.length - (intOf s5).toNat)
    case atStart => exact ⟨0, Nat.zero_le _, rfl, Below.refl _ _, fun j _ _ h => absurd h (Nat.not_lt_zero _)⟩
    case round =>
      obtain ⟨k, hk, rfl, HL, HN⟩ := hrel
      by_cases hlt : k < xs.length
      · have hltz : (k : Int) < (xs.length : Int) := by omega
        have hlt' : k < ys.length := by have := HE.out; omega
        have hltz' : (k : Int) < (ys.length : Int) := by omega
        obtain ⟨bp, offp, esp, rfl, hbp, hR, hc⟩ := H.out.at1 rfl hlt
        obtain ⟨rfl, gp⟩ := hR
        have dp0 : wr.cell? ⟨bp, offp + k, none⟩ = some (.int .i64 xs[k]) := (below_olds HL.out _ hbp).trans (hc _ rfl)
        clear hc gp
        try clear hR
        obtain ⟨bq, offq, esq, rfl, hbq, hR, hc⟩ := H'.out.at1 rfl hlt'
        obtain ⟨rfl, gq⟩ := hR
        have dq0 : wr.cell? ⟨bq, offq + k, none⟩ = some (.int .i64 ys[k]) := (below_olds HL.out _ hbq).trans (hc _ rfl)
        clear hc gq
        try clear hR
        have HQ0 : Hid (eq_i xs[k] ys[k] = false → eqL eq_i xs ys = false) := eqL_get xs ys k hlt hlt'
        have HQ1 : Hid (eq_i xs[k] ys[k] = true → ∀ j (h1 : j < xs.length) (h2 : j < ys.length), j < k + 1 → eq_i xs[j] ys[j] = true) := fun e j h1 h2 hj => by
          by_cases ej : j = k
          · subst ej; exact e
          · exact HN.out j h1 h2 (by omega)
        generalize xs[k] = x at dp0 HQ0 HQ1
        generalize ys[k] = y at dq0 HQ0 HQ1
        cases hq : eq_i x y
        · have hq' : (x != y) = true := by simp [eq_i] at hq; simp [hq]
          go_wp2_with fail
          go_quiet (fail)
          go_wp2
          go_ret
          exact ⟨by rw [HQ0.out hq]; rfl, below_drewN HL.out _⟩
        · have hq' : (x != y) = false := by simp [eq_i] at hq; simp [hq]
          go_wp2_with fail
          go_quiet (fail)
          go_wp2
          go_roundw
          case rel => exact ⟨k + 1, by omega, by go_num, below_drewN HL.out _, HQ1.out hq⟩
          case measure => simp [intOf]; omega
      · have hltz : ¬ (k : Int) < (xs.length : Int) := by omega
        obtain rfl : k = xs.length := by omega
        go_wp2
        go_ret
        exact ⟨by rw [eqL_all xs ys HE.out fun j h1 h2 => HN.out j h1 h2 h1]; rfl, HL.out⟩
  · have hne' : ((xs.length : Int) != (ys.length : Int)) = true := by simp; omega
    rw [eqL_len xs ys hne]
    clear h h' hne
    go_enter Try.func79, Try.ntmps79
    go_wp2
    go_ret
    exact ⟨rfl, Below.refl _ _⟩

set_option maxRecDepth 100000 in
set_option maxHeartbeats 1000000 in
theorem eq_LL_c (A A' : Option Addr) (c c' : Nat) (xs ys : List (List Int)) (w : World) (h : Sl (eSl eInt) w (Old w) A c xs) (h' : Sl (eSl eInt) w (Old w) A' c' ys) :
    Calls Try.prog 78 #[.slice A xs.length c, .slice A' ys.length c'] w fun e w' => e = .returned (.bool (eq_LL xs ys)) ∧ Below w.heap.size w w' := by
  have hlen := h.len
  have hlen' := h'.len
  unfold eq_LL
  by_cases hne : xs.length = ys.length
  · have hne' : ((xs.length : Int) != (ys.length : Int)) = false := by simp [hne]
    have HE := Lib.hid hne; clear hne
    have H := Lib.hid h; clear h
    have H' := Lib.hid h'; clear h'
    go_enter Try.func78, Try.ntmps78
    go_wp2
    clear hne'
    go_loopw [5] (fun s5 wr => ∃ k : Nat, k ≤ xs.length ∧ s5 = .int .i64 k ∧ Hid (Below w.heap.size w wr) ∧ Hid (∀ j (h1 : j < xs.length) (h2 : j < ys.length), j < k → eq_L xs[j] ys[j] = true)) (fun s5 _ => xs.length - (intOf s5).toNat)
    case atStart => exact ⟨0, Nat.zero_le _, rfl, Below.refl _ _, fun j _ _ h => absurd h (Nat.not_lt_zero _)⟩
    case round =>
      obtain ⟨k, hk, rfl, HL, HN⟩ := hrel
      by_cases hlt : k < xs.length
      · have hltz : (k : Int) < (xs.length : Int) := by omega
        have hlt' : k < ys.length := by have := HE.out; omega
        have hltz' : (k : Int) < (ys.length : Int) := by omega
        obtain ⟨bp, offp, esp, rfl, hbp, hR, hc⟩ := H.out.at1 rfl hlt
        obtain ⟨Ap, cp, rfl, gp⟩ := hR
        have dp0 : wr.cell? ⟨bp, offp + k, none⟩ = some (.slice Ap xs[k].length cp) := (below_olds HL.out _ hbp).trans (hc _ rfl)
        have HRp := Lib.hid (gp.on HL.out)
        clear hc gp
        try clear hR
        obtain ⟨bq, offq, esq, rfl, hbq, hR, hc⟩ := H'.out.at1 rfl hlt'
        obtain ⟨Aq, cq, rfl, gq⟩ := hR
        have dq0 : wr.cell? ⟨bq, offq + k, none⟩ = some (.slice Aq ys[k].length cq) := (below_olds HL.out _ hbq).trans (hc _ rfl)
        have HRq := Lib.hid (gq.on HL.out)
        clear hc gq
        try clear hR
        have HQ0 : Hid (eq_L xs[k] ys[k] = false → eqL eq_L xs ys = false) := eqL_get xs ys k hlt hlt'
        have HQ1 : Hid (eq_L xs[k] ys[k] = true → ∀ j (h1 : j < xs.length) (h2 : j < ys.length), j < k + 1 → eq_L xs[j] ys[j] = true) := fun e j h1 h2 hj => by
          by_cases ej : j = k
          · subst ej; exact e
          · exact HN.out j h1 h2 (by omega)
        generalize xs[k] = x at dp0 HRp HQ0 HQ1
        generalize ys[k] = y at dq0 HRq HQ0 HQ1
        go_wp2_with fail
        go_still_tail 8, (by kernel_rfl)
        cases hq : eq_L x y
        · go_wp2_with fail
          refine (eq_L_c _ _ _ _ x y _ (HRp.out.on (Below.refl _ _).drew) (HRq.out.on (Below.refl _ _).drew)).mono ?_
          rintro e w2 ⟨rfl, hb2⟩
          rw [hq]
          go_wp2
          go_ret
          exact ⟨by rw [HQ0.out hq]; rfl, HL.out.drew.trans (hb2.mono HL.out.size)⟩
        · go_wp2_with fail
          refine (eq_L_c _ _ _ _ x y _ (HRp.out.on (Below.refl _ _).drew) (HRq.out.on (Below.refl _ _).drew)).mono ?_
          rintro e w2 ⟨rfl, hb2⟩
          rw [hq]
          go_wp2
          go_roundw
          case rel => exact ⟨k + 1, by omega, by go_num, HL.out.drew.trans (hb2.mono HL.out.size), HQ1.out hq⟩
          case measure => simp [intOf]; omega
      · have hltz : ¬ (k : Int) < (xs.length : Int) := by omega
        obtain rfl : k = xs.length := by omega
        go_wp2
        go_ret
        exact ⟨by rw [eqL_all xs ys HE.out fun j h1 h2 => HN.out j h1 h2 h1]; rfl, HL.out⟩
  · have hne' : ((xs.length : Int) != (ys.length : Int)) = true := by simp; omega
    rw [eqL_len xs ys hne]
    clear h h' hne
    go_enter Try.func78, Try.ntmps78
    go_wp2
    go_ret
    exact ⟨rfl, Below.refl _ _⟩

set_option maxHeartbeats 1000000 in
theorem eq_Turn_c (es es' : List Value) (x y : tTurn) (w : World) (h : eTurn.R w (Old w) es x) (h' : eTurn.R w (Old w) es' y) :
    Calls Try.prog 55 #[.agg es.toArray, .agg es'.toArray] w fun e w' => e = .returned (.bool (eq_Turn x y)) ∧ Below w.heap.size w w' := by
  obtain ⟨Ax1, cx1, rfl, gx0, gx1⟩ := shape_Turn h
  obtain ⟨Ay1, cy1, rfl, gy0, gy1⟩ := shape_Turn h'
  have HB0 := Lib.hid (((Below.refl w.heap.size w).alloc (Nat.le_refl _) (.cells #[.int .i64 x.1, .slice Ax1 x.2.length cx1] 73)).alloc (by simp) (.cells #[.int .i64 y.1, .slice Ay1 y.2.length cy1] 73))
  have HX1 := Lib.hid (gx1.on HB0.out); clear gx1
  have HY1 := Lib.hid (gy1.on HB0.out); clear gy1
  clear gx0 gy0
  cases t0 : eq_i x.1 y.1
  · rw [show eq_Turn x y = false from by unfold eq_Turn; simp [t0]]
    have t0' : (x.1 != y.1) = true := by simp only [eq_i] at t0; simp [bne, t0]
    go_enter Try.func55, Try.ntmps55
    go_wp2
    go_ret
    exact ⟨rfl, HB0.out⟩
  have t0' : (x.1 != y.1) = false := by simp only [eq_i] at t0; simp [bne, t0]
  cases t1 : eq_L x.2 y.2
  · rw [show eq_Turn x y = false from by unfold eq_Turn; simp [t0, t1]]
    go_enter Try.func55, Try.ntmps55
    go_wp2_with fail
    refine (eq_L_c _ _ _ _ x.2 y.2 _ HX1.out HY1.out).mono ?_
    rintro e w1 ⟨rfl, hb⟩
    rw [t1]
    have HB1 := Lib.hid hb
    clear hb
    obtain ⟨hc, hf⟩ := bcell HB1.out
    go_wp2
    go_ret
    exact ⟨rfl, below_trans HB0.out HB1.out⟩
  rw [show eq_Turn x y = true from by unfold eq_Turn; simp [t0, t1]]
  go_enter Try.func55, Try.ntmps55
  go_wp2_with fail
  refine (eq_L_c _ _ _ _ x.2 y.2 _ HX1.out HY1.out).mono ?_
  rintro e w1 ⟨rfl, hb⟩
  rw [t1]
  have HB1 := Lib.hid hb
  clear hb
  obtain ⟨hc, hf⟩ := bcell HB1.out
  go_wp2
  go_ret
  exact ⟨rfl, below_trans HB0.out HB1.out⟩

set_option maxHeartbeats 1000000 in
theorem eq_Cyclic_c (es es' : List Value) (x y : tCyclic) (w : World) (h : eCyclic.R w (Old w) es x) (h' : eCyclic.R w (Old w) es' y) :
    Calls Try.prog 36 #[.agg es.toArray, .agg es'.toArray] w fun e w' => e = .returned (.bool (eq_Cyclic x y)) ∧ Below w.heap.size w w' := by
  obtain ⟨Ax0, cx0, rfl, gx0⟩ := shape_Cyclic h
  obtain ⟨Ay0, cy0, rfl, gy0⟩ := shape_Cyclic h'
  have HB0 := Lib.hid (((Below.refl w.heap.size w).alloc (Nat.le_refl _) (.cells #[.slice Ax0 x.length cx0] 48)).alloc (by simp) (.cells #[.slice Ay0 y.length cy0] 48))
  have HX0 := Lib.hid (gx0.on HB0.out); clear gx0
  have HY0 := Lib.hid (gy0.on HB0.out); clear gy0
  cases t0 : eq_LL x y
  · rw [show eq_Cyclic x y = false from by unfold eq_Cyclic; simp [t0]]
    go_enter Try.func36, Try.ntmps36
    go_wp2_with fail
    refine (eq_LL_c _ _ _ _ x y _ HX0.out HY0.out).mono ?_
    rintro e w1 ⟨rfl, hb⟩
    rw [t0]
    have HB1 := Lib.hid hb
    clear hb
    obtain ⟨hc, hf⟩ := bcell HB1.out
    go_wp2
    go_ret
    exact ⟨rfl, below_trans HB0.out HB1.out⟩
  rw [show eq_Cyclic x y = true from by unfold eq_Cyclic; simp [t0]]
  go_enter Try.func36, Try.ntmps36
  go_wp2_with fail
  refine (eq_LL_c _ _ _ _ x y _ HX0.out HY0.out).mono ?_
  rintro e w1 ⟨rfl, hb⟩
  rw [t0]
  have HB1 := Lib.hid hb
  clear hb
  obtain ⟨hc, hf⟩ := bcell HB1.out
  go_wp2
  go_ret
  exact ⟨rfl, below_trans HB0.out HB1.out⟩

theorem cost_mem {α : Type} (f : α → Nat) (xs : List α) (k : Nat) (h : k < xs.length) : f xs[k] + xs.length ≤ costL f xs := by
  have h1 := costL_take f xs k h
  have h2 := cost_le f xs (k + 1)
  unfold costL
  omega

theorem info_impl_Int64 : (Try.prog.info? 2).map (fun i => (i.zero, i.size, i.bytes)) = some (some (.int .i64 0), 1, 8) := by kernel_rfl

theorem info_impl_Int64S : (Try.prog.info? 30).map (fun i => (i.zero, i.size, i.bytes)) = some (some (.slice none 0 0), 1, 24) := by kernel_rfl

set_option maxHeartbeats 1000000 in
theorem to_Int64S (A : Option Addr) (c : Nat) (xs : List Int) (w : World) (h : Sl eInt w (Old w) A c xs) (hsm : cost_L xs ≤ 1048576) :
    Calls Try.prog 117 #[.slice A xs.length c] w fun e w' => ∃ A' c', e = .returned (.slice A' xs.length c') ∧ So eInt w' (Fr w w') A' c' xs ∧ Below w.heap.size w w' := by
  obtain ⟨i0, hi0, hz0, hz1, hz2⟩ := info_parts info_impl_Int64
  have hlen := h.len
  have hsl : xs.length ≤ 1048576 := by exact hsm
  have HCO := Lib.hid hsm; clear hsm
  have H := Lib.hid h; clear h
  go_enter Try.func117, Try.ntmps117
  go_wp2_with (at_make; refine wpList_make_full _ rfl _ _ 30 rfl w.heap.size 2 i0 _ 1 Try.underlying30 hi0 hz0 hz1 _ _ _ _ xs.length rfl rfl rfl rfl (by rw [hz2]; omega) (by unfold maxLen; omega) (Nat.le_refl _) ?_)
  intro w1 hown hgrow
  obtain ⟨cur, hB, hs, ht, hn1, hn2⟩ := Blk.of_own hown
  have HB := Lib.hid hB; clear hB
  have HS : Hid (cur.size = xs.length) := by show _ = _; omega
  have hbel : Below w.heap.size w w1 := (Below.refl _ _).grown hgrow (Nat.le_refl _) (by simp)
  have HL := Lib.hid hbel; clear hbel
  clear hs ht hn1 hn2 hgrow hown hi0 hz0 hz1 hz2
  go_wp2_with fail
  go_loopw [4] (fun s4 wr => ∃ (k : Nat) (cur : Array Value), k ≤ xs.length ∧ s4 = .int .i64 k ∧ Hid (Below w.heap.size w wr) ∧ Hid (Blk wr w.heap.size 2 cur) ∧ Hid (cur.size = xs.length) ∧ Hid (Filled eInt wr w.heap.size (fun b => w.heap.size ≤ b) cur k xs)) (fun s4 _ => xs.length - (intOf s4).toNat)
  case atStart => exact ⟨0, cur, Nat.zero_le _, rfl, HL, HB, HS, Filled.zero⟩
  case round =>
    clear HB HS HL
    obtain ⟨k, cur, hk, rfl, HL, HB, HS, HF⟩ := hrel
    by_cases hlt : k < xs.length
    · have hltz : (k : Int) < (xs.length : Int) := by omega
      obtain ⟨b, off, es, rfl, hb, hR, hc⟩ := H.out.at1 rfl hlt
      have HX : Hid (xs[k]? = some xs[k]) := List.getElem?_eq_getElem hlt
      obtain ⟨rfl, gq⟩ := hR
      have d0 : wr.cell? ⟨b, off + k, none⟩ = some (.int .i64 xs[k]) := (below_olds HL.out _ hb).trans (hc _ rfl)
      have HR := Lib.hid gq
      clear hc gq
      try clear hR
      obtain ⟨v0, hv0⟩ : ∃ v, cur[k]? = some v := get_some (by have := HS.out; omega)
      have HV0 := Lib.hid hv0; clear hv0
      generalize xs[k] = y at d0 HX HR
      have e0 : wr.cell? ⟨w.heap.size, k, none⟩ = some v0 := (HB.out.cell _).trans HV0.out
      have f0 := HB.out.frozen (k)
      go_wp2
      go_roundw
      case rel =>
        exact ⟨k + 1, setAll cur k [_], by omega, by go_num, HL.out.setCell (Nat.le_refl _) _, HB.out.set _ _, (size_setAll _ _ _).trans HS.out, by
          have := (HF.out.set k (.int .i64 y)).step (w' := wr.setCell ⟨w.heap.size, k, none⟩ (.int .i64 y)) (T0 := fun _ => False) (es := [.int .i64 y]) (fun _ _ _ => rfl) (Nat.le_refl _) HX.out ⟨rfl, HR.out⟩ (fun _ h => h.elim) (by have := HS.out; show (k + 1) * 1 ≤ _; omega)
          rw [show k * eInt.size = k from Nat.mul_one k] at this
          exact this⟩
      case measure => simp [intOf]; omega
    · have hltz : ¬ (k : Int) < (xs.length : Int) := by omega
      obtain rfl : k = xs.length := by omega
      go_wp2
      go_ret
      exact ⟨_, _, rfl, HF.out.soFr HB.out (Nat.le_refl _) (by unfold maxLen; omega), HL.out⟩

set_option maxHeartbeats 1000000 in
theorem to_Int64SS (A : Option Addr) (c : Nat) (xs : List (List Int)) (w : World) (h : Sl (eSl eInt) w (Old w) A c xs) (hsm : cost_LL xs ≤ 1048576) :
    Calls Try.prog 95 #[.slice A xs.length c] w fun e w' => ∃ A' c', e = .returned (.slice A' xs.length c') ∧ So (eSl eInt) w' (Fr w w') A' c' xs ∧ Below w.heap.size w w' := by
  obtain ⟨i0, hi0, hz0, hz1, hz2⟩ := info_parts info_impl_Int64S
  have hlen := h.len
  have hsl : xs.length ≤ 1048576 := by have : cost_LL xs = costL cost_L xs := rfl; unfold costL at this; omega
  have HCO := Lib.hid hsm; clear hsm
  have H := Lib.hid h; clear h
  go_enter Try.func95, Try.ntmps95
  go_wp2_with (at_make; refine wpList_make_full _ rfl _ _ 29 rfl w.heap.size 30 i0 _ 1 Try.underlying29 hi0 hz0 hz1 _ _ _ _ xs.length rfl rfl rfl rfl (by rw [hz2]; omega) (by unfold maxLen; omega) (Nat.le_refl _) ?_)
  intro w1 hown hgrow
  obtain ⟨cur, hB, hs, ht, hn1, hn2⟩ := Blk.of_own hown
  have HB := Lib.hid hB; clear hB
  have HS : Hid (cur.size = xs.length) := by show _ = _; omega
  have hbel : Below w.heap.size w w1 := (Below.refl _ _).grown hgrow (Nat.le_refl _) (by simp)
  have HL := Lib.hid hbel; clear hbel
  clear hs ht hn1 hn2 hgrow hown hi0 hz0 hz1 hz2
  go_wp2_with fail
  go_loopw [4] (fun s4 wr => ∃ (k : Nat) (cur : Array Value), k ≤ xs.length ∧ s4 = .int .i64 k ∧ Hid (Below w.heap.size w wr) ∧ Hid (Blk wr w.heap.size 30 cur) ∧ Hid (cur.size = xs.length) ∧ Hid (Filled (eSl eInt) wr w.heap.size (fun b => w.heap.size ≤ b) cur k xs)) (fun s4 _ => xs.length - (intOf s4).toNat)
  case atStart => exact ⟨0, cur, Nat.zero_le _, rfl, HL, HB, HS, Filled.zero⟩
  case round =>
    clear HB HS HL
    obtain ⟨k, cur, hk, rfl, HL, HB, HS, HF⟩ := hrel
    by_cases hlt : k < xs.length
    · have hltz : (k : Int) < (xs.length : Int) := by omega
      obtain ⟨b, off, es, rfl, hb, hR, hc⟩ := H.out.at1 rfl hlt
      have HX : Hid (xs[k]? = some xs[k]) := List.getElem?_eq_getElem hlt
      have HCS : Hid (cost_L xs[k] ≤ 1048576) := by have h1 := cost_mem cost_L xs k hlt; have h2 : cost_LL xs = costL cost_L xs := rfl; have := HCO.out; show _ ≤ _; omega
      obtain ⟨Aq, cq, rfl, gq⟩ := hR
      have d0 : wr.cell? ⟨b, off + k, none⟩ = some (.slice Aq xs[k].length cq) := (below_olds HL.out _ hb).trans (hc _ rfl)
      have HR := Lib.hid (gq.on HL.out)
      clear hc gq
      try clear hR
      obtain ⟨v0, hv0⟩ : ∃ v, cur[k]? = some v := get_some (by have := HS.out; omega)
      have HV0 := Lib.hid hv0; clear hv0
      generalize xs[k] = y at d0 HX HR HCS
      go_wp2_with fail
      refine (to_Int64S _ _ y _ HR.out HCS.out).mono ?_
      rintro e w2 ⟨A2, c2, rfl, ho2, hb2⟩
      have HO2 : Hid ((eSl eInt).O w2 (Fr wr w2) [.slice A2 y.length c2] y) := ⟨_, _, rfl, ho2⟩; clear ho2
      have hB2 := HB.out.on hb2
      have e0 : w2.cell? ⟨w.heap.size, k, none⟩ = some v0 := (hB2.cell _).trans HV0.out
      have f0 := hB2.frozen (k)
      have HB2 := Lib.hid hB2; clear hB2
      have HL2 := Lib.hid hb2; clear hb2
      go_wp2
      go_roundw
      case rel =>
        have hL := HL.out
        have hL2 := HL2.out
        have hbs : ∀ b, b ≠ w.heap.size → ∀ W : World, (∀ b, b ≠ w.heap.size → W.heap[b]? = w2.heap[b]?) → W.heap[b]? = w2.heap[b]? := fun b hb W h => h b hb
        have hW : ∀ b, b ≠ w.heap.size → (w2.setCell ⟨w.heap.size, k, none⟩ (.slice A2 y.length c2)).heap[b]? = w2.heap[b]? := fun b hb => by
          rw [Below.heap_setCell _ _ _ _ (by exact hb)]
        have hsz : (w2.setCell ⟨w.heap.size, k, none⟩ (.slice A2 y.length c2)).heap.size = w2.heap.size := by simp [World.setCell]
        refine ⟨k + 1, setAll cur (k) [.slice A2 y.length c2], by omega, by go_num, ((hL.trans (hL2.mono hL.size)).setCell (Nat.le_refl _) _), (HB2.out.set _ _), (size_setAll _ _ _).trans HS.out, ?_⟩
        have hstep := (HF.out).step (w' := w2.setCell ⟨w.heap.size, k, none⟩ (.slice A2 y.length c2)) (T0 := Fr wr w2) (es := [.slice A2 y.length c2]) (fun b hb hlt => (hW b hb).trans (hL2.block b hlt)) (by rw [hsz]; exact hL2.size) HX.out
          ((eSl eInt).okeep HO2.out fun b hb => hW b (fun e => by have := HB.out.lt; have := hb.1; omega)) (fun b hb => ⟨Nat.le_trans hL.size hb.1, fun e => by have := HB.out.lt; have := hb.1; omega, hb.1, by rw [hsz]; exact hb.2⟩) (by have := HS.out; show (k + 1) * 1 ≤ _; omega)
        rw [show k * (eSl eInt).size = k from Nat.mul_one k] at hstep
        exact hstep
      case measure => simp [intOf]; omega
    · have hltz : ¬ (k : Int) < (xs.length : Int) := by omega
      obtain rfl : k = xs.length := by omega
      go_wp2
      go_ret
      exact ⟨_, _, rfl, HF.out.soFr HB.out (Nat.le_refl _) (by unfold maxLen; omega), HL.out⟩

set_option maxRecDepth 100000 in
set_option maxHeartbeats 2000000 in
theorem to_Turn (es : List Value) (x : tTurn) (w : World) (h : eTurn.R w (Old w) es x) (hcost : cost_Turn x ≤ 1048576) :
    Calls Try.prog 53 #[.agg es.toArray] w fun e w' => ∃ es', e = .returned (.agg es'.toArray) ∧ eTurn.O w' (Fr w w') es' x ∧ Below w.heap.size w w' := by
  obtain ⟨A1, c1, rfl, g0, g1⟩ := shape_Turn h
  have HC : Hid (cost_Turn x ≤ 1048576) := hcost
  unfold cost_Turn at hcost
  have HB0 : Hid (Below w.heap.size w (((w.alloc (.cells #[.int .i64 x.1, .slice A1 x.2.length c1] 70)).alloc (.cells #[.int .i64 0, .slice none 0 0] 73)).alloc (.cells #[.int .i64 x.1, .slice none 0 0] 73))) := by show Below _ _ _; go_grown
  have hc1 : cost_L x.2 ≤ 1048576 := by omega
  have HC1 := Lib.hid hc1; clear hc1
  have K1 := Lib.hid g1; clear g1
  have G0 := Lib.hid g0; clear g0
  clear hcost h
  go_enter Try.func53, Try.ntmps53
  go_wp2_with fail
  refine (to_Int64S _ _ x.2 _ (by exact K1.out.on HB0.out) HC1.out).mono ?_
  rintro e w1 ⟨A1', c1', rfl, hs, hb⟩
  have HS1 := Lib.hid hs; clear hs
  have BL1 := Lib.hid (HB0.out.trans (hb.mono HB0.out.size))
  have HBW1 := Lib.hid hb; clear hb
  have HX := Lib.hid ((((Blk.new w 70 #[.int .i64 x.1, .slice A1 x.2.length c1]).alloc _).alloc _).on HBW1.out)
  have HR := Lib.hid (((Blk.new1 w _ 73 #[.int .i64 0, .slice none 0 0]).alloc _).on HBW1.out)
  have HO : Hid (Blk w1 (w.heap.size + 1 + 1) 73 #[.int .i64 x.1, .slice none 0 0]) := (Blk.new2 w _ _ 73 #[.int .i64 x.1, .slice none 0 0]).on HBW1.out
  have x0 : w1.cell? ⟨w.heap.size, 0, none⟩ = some (.int .i64 x.1) := HX.out.cell 0
  have o0 : w1.cell? ⟨w.heap.size + 1 + 1, 0, none⟩ = some (.int .i64 x.1) := HO.out.cell 0
  have r0 : w1.cell? ⟨w.heap.size + 1, 0, none⟩ = some (.int .i64 0) := HR.out.cell 0
  have p0 : w1.frozen? ⟨w.heap.size + 1 + 1, 0, none⟩ = false := HO.out.frozen 0
  have q0 : w1.frozen? ⟨w.heap.size + 1, 0, none⟩ = false := HR.out.frozen 0
  have x1 : w1.cell? ⟨w.heap.size, 1, none⟩ = some (.slice A1 x.2.length c1) := HX.out.cell 1
  have o1 : w1.cell? ⟨w.heap.size + 1 + 1, 1, none⟩ = some (.slice none 0 0) := HO.out.cell 1
  have r1 : w1.cell? ⟨w.heap.size + 1, 1, none⟩ = some (.slice none 0 0) := HR.out.cell 1
  have p1 : w1.frozen? ⟨w.heap.size + 1 + 1, 1, none⟩ = false := HO.out.frozen 1
  have q1 : w1.frozen? ⟨w.heap.size + 1, 1, none⟩ = false := HR.out.frozen 1
  go_wp2
  have hE : Blk (((w1.setCell ⟨w.heap.size + 1 + 1, 1, none⟩ (.slice A1' x.2.length c1')).setCell ⟨w.heap.size + 1, 0, none⟩ (.int .i64 x.1)).setCell ⟨w.heap.size + 1, 1, none⟩ (.slice A1' x.2.length c1')) (w.heap.size + 1) 73 #[.int .i64 x.1, .slice A1' x.2.length c1'] := (((HR.out.far (p := ⟨w.heap.size + 1 + 1, 1, none⟩) (by show w.heap.size + 1 ≠ w.heap.size + 1 + 1; omega) _).set _ _).set _ _)
  have e0 : (((w1.setCell ⟨w.heap.size + 1 + 1, 1, none⟩ (.slice A1' x.2.length c1')).setCell ⟨w.heap.size + 1, 0, none⟩ (.int .i64 x.1)).setCell ⟨w.heap.size + 1, 1, none⟩ (.slice A1' x.2.length c1')).cell? ⟨w.heap.size + 1, 0, none⟩ = some (.int .i64 x.1) := hE.cell 0
  have e1 : (((w1.setCell ⟨w.heap.size + 1 + 1, 1, none⟩ (.slice A1' x.2.length c1')).setCell ⟨w.heap.size + 1, 0, none⟩ (.int .i64 x.1)).setCell ⟨w.heap.size + 1, 1, none⟩ (.slice A1' x.2.length c1')).cell? ⟨w.heap.size + 1, 1, none⟩ = some (.slice A1' x.2.length c1') := hE.cell 1
  refine bodyPost_ret (v := .agg #[.int .i64 x.1, .slice A1' x.2.length c1']) (by simp [results, Try.results53, go_sem, e0, e1]) rfl ?_
  have t1 : w.heap.size + 3 ≤ w1.heap.size := by have h1 := HBW1.out.size; simp only [World.size_alloc] at h1; omega
  refine ⟨[.int .i64 x.1, .slice A1' x.2.length c1'], rfl, ?_, ?_⟩
  · have sE1 : So eInt (((w1.setCell ⟨w.heap.size + 1 + 1, 1, none⟩ (.slice A1' x.2.length c1')).setCell ⟨w.heap.size + 1, 0, none⟩ (.int .i64 x.1)).setCell ⟨w.heap.size + 1, 1, none⟩ (.slice A1' x.2.length c1')) (Iv w.heap.size (((w1.setCell ⟨w.heap.size + 1 + 1, 1, none⟩ (.slice A1' x.2.length c1')).setCell ⟨w.heap.size + 1, 0, none⟩ (.int .i64 x.1)).setCell ⟨w.heap.size + 1, 1, none⟩ (.slice A1' x.2.length c1')).heap.size) _ _ x.2 := (HS1.out.keep (w' := (((w1.setCell ⟨w.heap.size + 1 + 1, 1, none⟩ (.slice A1' x.2.length c1')).setCell ⟨w.heap.size + 1, 0, none⟩ (.int .i64 x.1)).setCell ⟨w.heap.size + 1, 1, none⟩ (.slice A1' x.2.length c1'))) fun b hb => ((((Lat.refl (w.heap.size + 3) w1).set (p := ⟨w.heap.size + 1 + 1, 1, none⟩) (by show w.heap.size + 1 + 1 < _; omega)).set (p := ⟨w.heap.size + 1, 0, none⟩) (by show w.heap.size + 1 < _; omega)).set (p := ⟨w.heap.size + 1, 1, none⟩) (by show w.heap.size + 1 < _; omega)).block b (by have h1 := hb.1; simp only [World.size_alloc, World.size_setCell] at h1; omega) hb.2).more (Iv.mono (by simp only [World.size_alloc]; omega) (by simp only [World.size_setCell]; omega))
    exact (oPrI G0.out (oSl sE1))
  · exact (((BL1.out.setCell (p := ⟨w.heap.size + 1 + 1, 1, none⟩) (by show w.heap.size ≤ w.heap.size + 1 + 1; omega) _).setCell (p := ⟨w.heap.size + 1, 0, none⟩) (by show w.heap.size ≤ w.heap.size + 1; omega) _).setCell (p := ⟨w.heap.size + 1, 1, none⟩) (by show w.heap.size ≤ w.heap.size + 1; omega) _)

set_option maxRecDepth 100000 in
set_option maxHeartbeats 2000000 in
theorem to_Cyclic (es : List Value) (x : tCyclic) (w : World) (h : eCyclic.R w (Old w) es x) (hcost : cost_Cyclic x ≤ 1048576) :
    Calls Try.prog 34 #[.agg es.toArray] w fun e w' => ∃ es', e = .returned (.agg es'.toArray) ∧ eCyclic.O w' (Fr w w') es' x ∧ Below w.heap.size w w' := by
  obtain ⟨A0, c0, rfl, g0⟩ := shape_Cyclic h
  have HC : Hid (cost_Cyclic x ≤ 1048576) := hcost
  unfold cost_Cyclic at hcost
  have HB0 : Hid (Below w.heap.size w (((w.alloc (.cells #[.slice A0 x.length c0] 45)).alloc (.cells #[.slice none 0 0] 48)).alloc (.cells #[.slice none 0 0] 48))) := by show Below _ _ _; go_grown
  have hc0 : cost_LL x ≤ 1048576 := by omega
  have HC0 := Lib.hid hc0; clear hc0
  have K0 := Lib.hid g0; clear g0
  clear hcost h
  go_enter Try.func34, Try.ntmps34
  go_wp2_with fail
  refine (to_Int64SS _ _ x _ (by exact K0.out.on HB0.out) HC0.out).mono ?_
  rintro e w1 ⟨A0', c0', rfl, hs, hb⟩
  have HS1 := Lib.hid hs; clear hs
  have BL1 := Lib.hid (HB0.out.trans (hb.mono HB0.out.size))
  have HBW1 := Lib.hid hb; clear hb
  have HX := Lib.hid ((((Blk.new w 45 #[.slice A0 x.length c0]).alloc _).alloc _).on HBW1.out)
  have HR := Lib.hid (((Blk.new1 w _ 48 #[.slice none 0 0]).alloc _).on HBW1.out)
  have HO : Hid (Blk w1 (w.heap.size + 1 + 1) 48 #[.slice none 0 0]) := (Blk.new2 w _ _ 48 #[.slice none 0 0]).on HBW1.out
  have x0 : w1.cell? ⟨w.heap.size, 0, none⟩ = some (.slice A0 x.length c0) := HX.out.cell 0
  have o0 : w1.cell? ⟨w.heap.size + 1 + 1, 0, none⟩ = some (.slice none 0 0) := HO.out.cell 0
  have r0 : w1.cell? ⟨w.heap.size + 1, 0, none⟩ = some (.slice none 0 0) := HR.out.cell 0
  have p0 : w1.frozen? ⟨w.heap.size + 1 + 1, 0, none⟩ = false := HO.out.frozen 0
  have q0 : w1.frozen? ⟨w.heap.size + 1, 0, none⟩ = false := HR.out.frozen 0
  go_wp2
  have hE : Blk ((w1.setCell ⟨w.heap.size + 1 + 1, 0, none⟩ (.slice A0' x.length c0')).setCell ⟨w.heap.size + 1, 0, none⟩ (.slice A0' x.length c0')) (w.heap.size + 1) 48 #[.slice A0' x.length c0'] := ((HR.out.far (p := ⟨w.heap.size + 1 + 1, 0, none⟩) (by show w.heap.size + 1 ≠ w.heap.size + 1 + 1; omega) _).set _ _)
  have e0 : ((w1.setCell ⟨w.heap.size + 1 + 1, 0, none⟩ (.slice A0' x.length c0')).setCell ⟨w.heap.size + 1, 0, none⟩ (.slice A0' x.length c0')).cell? ⟨w.heap.size + 1, 0, none⟩ = some (.slice A0' x.length c0') := hE.cell 0
  refine bodyPost_ret (v := .agg #[.slice A0' x.length c0']) (by simp [results, Try.results34, go_sem, e0]) rfl ?_
  have t1 : w.heap.size + 3 ≤ w1.heap.size := by have h1 := HBW1.out.size; simp only [World.size_alloc] at h1; omega
  refine ⟨[.slice A0' x.length c0'], rfl, ?_, ?_⟩
  · have sE1 : So (eSl eInt) ((w1.setCell ⟨w.heap.size + 1 + 1, 0, none⟩ (.slice A0' x.length c0')).setCell ⟨w.heap.size + 1, 0, none⟩ (.slice A0' x.length c0')) (Iv w.heap.size ((w1.setCell ⟨w.heap.size + 1 + 1, 0, none⟩ (.slice A0' x.length c0')).setCell ⟨w.heap.size + 1, 0, none⟩ (.slice A0' x.length c0')).heap.size) _ _ x := (HS1.out.keep (w' := ((w1.setCell ⟨w.heap.size + 1 + 1, 0, none⟩ (.slice A0' x.length c0')).setCell ⟨w.heap.size + 1, 0, none⟩ (.slice A0' x.length c0'))) fun b hb => (((Lat.refl (w.heap.size + 3) w1).set (p := ⟨w.heap.size + 1 + 1, 0, none⟩) (by show w.heap.size + 1 + 1 < _; omega)).set (p := ⟨w.heap.size + 1, 0, none⟩) (by show w.heap.size + 1 < _; omega)).block b (by have h1 := hb.1; simp only [World.size_alloc, World.size_setCell] at h1; omega) hb.2).more (Iv.mono (by simp only [World.size_alloc]; omega) (by simp only [World.size_setCell]; omega))
    exact (oSl sE1)
  · exact ((BL1.out.setCell (p := ⟨w.heap.size + 1 + 1, 0, none⟩) (by show w.heap.size ≤ w.heap.size + 1 + 1; omega) _).setCell (p := ⟨w.heap.size + 1, 0, none⟩) (by show w.heap.size ≤ w.heap.size + 1; omega) _)

def outB (lo hi n : Int) : Bool := !withinB n lo hi

def allW (xs : List Int) (lo hi : Int) : Bool := !xs.any (outB lo hi)

theorem impl_allWithin (A : Option Addr) (c : Nat) (xs : List Int) (lo hi : Int) (w : World) (h : Sl eInt w (Old w) A c xs) :
    Calls Try.prog 133 #[.slice A xs.length c, .int .i64 lo, .int .i64 hi] w fun e w' => e = .returned (.bool (allW xs lo hi)) ∧ w = w' := by
  have hlen := h.len
  have H := Lib.hid h; clear h
  unfold allW
  go_enter Try.func133, Try.ntmps133
  go_wp2
  go_loop [8, 11] (fun _ i => ∃ k : Nat, k ≤ xs.length ∧ i = .int .i64 k ∧ Hid ((xs.take k).any (outB lo hi) = false)) (fun _ i => xs.length - (intOf i).toNat)
  case atStart => exact ⟨0, Nat.zero_le _, rfl, rfl⟩
  case round =>
    obtain ⟨k, hk, rfl, HN⟩ := hrel
    by_cases hlt : k < xs.length
    · have hltz : (k : Int) < (xs.length : Int) := by omega
      obtain ⟨b, off, es, rfl, hb, ⟨rfl, _⟩, hc⟩ := H.out.at1 rfl hlt
      have d0 : w.cell? ⟨b, off + k, none⟩ = some (.int .i64 xs[k]) := hc _ rfl
      clear hc
      have HT : Hid (outB lo hi xs[k] = true → xs.any (outB lo hi) = true) := fun e => any_hit hlt e
      have HS : Hid (outB lo hi xs[k] = false → (xs.take (k + 1)).any (outB lo hi) = false) := fun e => any_step hlt HN.out e
      generalize xs[k] = y at d0 HT HS
      cases q1 : withinB y lo hi
      · go_wp2_with (go_at_call 72; refine (impl_within _ _ _ _).mono ?_; rintro e w' ⟨rfl, rfl⟩; rw [q1])
        go_ret
        exact ⟨by rw [HT.out (by unfold outB; rw [q1]; rfl)]; rfl, rfl⟩
      · go_wp2_with (go_at_call 72; refine (impl_within _ _ _ _).mono ?_; rintro e w' ⟨rfl, rfl⟩; rw [q1])
        go_round
        case rel => exact ⟨k + 1, by omega, by go_num, HS.out (by unfold outB; rw [q1]; rfl)⟩
        case measure => simp [intOf]; omega
    · have hltz : ¬ (k : Int) < (xs.length : Int) := by omega
      obtain rfl : k = xs.length := by omega
      go_wp2
      go_ret
      have hn := HN.out
      rw [List.take_length] at hn
      exact ⟨ret_bool (by rw [hn]; rfl), rfl⟩

def isTagW (xs : List Int) (n : Int) : Bool := decide (xs.length ≤ 1000) && allW xs 0 (n - 1)

theorem impl_isTagWord (A : Option Addr) (c : Nat) (xs : List Int) (n : Int) (w : World) (h : Sl eInt w (Old w) A c xs) (hn : 1 ≤ n) (hn' : n ≤ 1048576) :
    Calls Try.prog 118 #[.slice A xs.length c, .int .i64 n] w fun e w' => e = .returned (.bool (isTagW xs n)) ∧ w = w' := by
  have H := Lib.hid h; clear h
  by_cases h1 : xs.length ≤ 1000
  · have h1' : decide ((xs.length : Int) ≤ 1000) = true := by simp; omega
    rw [show isTagW xs n = allW xs 0 (n - 1) from by unfold isTagW; simp [h1]]
    go_enter Try.func118, Try.ntmps118
    go_wp2_with (go_at_call 133; refine (impl_allWithin _ _ _ _ _ _ H.out).mono ?_; rintro e w' ⟨rfl, rfl⟩)
    go_ret
    exact ⟨rfl, rfl⟩
  · have h1' : decide ((xs.length : Int) ≤ 1000) = false := by simp; omega
    rw [show isTagW xs n = false from by unfold isTagW; simp [h1]]
    go_enter Try.func118, Try.ntmps118
    go_wp2_with fail
    go_ret
    exact ⟨rfl, rfl⟩

def notTagW (n : Int) (xs : List Int) : Bool := !isTagW xs n

theorem enters_wordsOk1 : ∀ args w, (callFunc 140 args).run Try.prog w = .ok (.enter 140 args) w := enters_of Try.func140 (by kernel_rfl) rfl

theorem impl_wordsOk1 (es : List Value) (xs : List Int) (w : World) (h : (eSl eInt).R w (Old w) es xs) (B : Nat) (n : Int) (hn : 1 ≤ n) (hn' : n ≤ 1048576) (hB : w.cell? ⟨B, 0, none⟩ = some (.int .i64 n)) :
    Calls Try.prog 140 #[es[0]!, .pointer (some ⟨B, 0, none⟩)] w fun e w' => e = .returned (.bool (notTagW n xs)) ∧ Below w.heap.size w w' := by
  obtain ⟨A, c, rfl, h⟩ := h
  have H := Lib.hid h; clear h
  show Calls Try.prog 140 #[.slice A xs.length c, .pointer (some ⟨B, 0, none⟩)] w _
  go_enter Try.func140, Try.ntmps140
  go_wp2_with (go_at_call 118; refine (impl_isTagWord _ _ _ _ _ H.out hn hn').mono ?_; rintro e w' ⟨rfl, rfl⟩)
  go_ret
  exact ⟨rfl, Below.refl _ _⟩

theorem impl_wordsOk (A : Option Addr) (c : Nat) (xs : List (List Int)) (n : Int) (w : World) (h : Sl (eSl eInt) w (Old w) A c xs) (hn : 1 ≤ n) (hn' : n ≤ 1048576) :
    Calls Try.prog 97 #[.slice A xs.length c, .int .i64 n] w fun e w' => e = .returned (.bool (!xs.any (notTagW n))) ∧ Below w.heap.size w w' := by
  have hW : Below w.heap.size w (w.alloc (.cells #[.int .i64 n] 2)) := (Below.refl _ _).alloc (Nat.le_refl _) _
  have hI := Lib.hid (ContainsFunc_Int64S (notTagW n) 140 #[.pointer (some ⟨w.heap.size, 0, none⟩)] A c xs _ (h.on hW) enters_wordsOk1 (fun W x es _ hb hR => impl_wordsOk1 es x W hR w.heap.size n hn hn' (by
    rw [hb.cell (p := ⟨w.heap.size, 0, none⟩) (by simp)]; simp [go_sem])))
  have HW := Lib.hid hW; clear hW h
  go_enter Try.func97, Try.ntmps97
  go_wp2_with (go_at_call 139; refine hI.out.mono ?_; rintro e w' ⟨rfl, hb⟩)
  go_ret
  exact ⟨rfl, below_trans HW.out hb⟩

def validCyc (xs : tCyclic) : Bool := withinB xs.length 1 400 && !xs.any (notTagW 2)

theorem impl_ValidCyclic (es : List Value) (x : tCyclic) (w : World) (h : eCyclic.R w (Old w) es x) :
    Calls Try.prog 35 #[.agg es.toArray] w fun e w' => e = .returned (.bool (validCyc x)) ∧ Below w.heap.size w w' := by
  obtain ⟨A, c, rfl, g⟩ := shape_Cyclic h
  clear h
  have hlen := g.len
  have hW : Below w.heap.size w (w.alloc (.cells #[.slice A x.length c] 48)) := (Below.refl _ _).alloc (Nat.le_refl _) _
  have hI := Lib.hid (impl_wordsOk A c x 2 _ (g.on hW) (by omega) (by omega))
  have HW := Lib.hid hW; clear hW g
  unfold validCyc
  cases h1 : withinB x.length 1 400
  · go_enter Try.func35, Try.ntmps35
    go_wp2_with (first | (go_at_call 96; refine (impl_size_Int64S _ _ _ _).mono ?_; rintro e w' ⟨rfl, rfl⟩) | (go_at_call 72; refine (impl_within _ _ _ _).mono ?_; rintro e w' ⟨rfl, rfl⟩; rw [h1]))
    go_ret
    exact ⟨by simp, HW.out⟩
  · go_enter Try.func35, Try.ntmps35
    go_wp2_with (first | (go_at_call 96; refine (impl_size_Int64S _ _ _ _).mono ?_; rintro e w' ⟨rfl, rfl⟩) | (go_at_call 72; refine (impl_within _ _ _ _).mono ?_; rintro e w' ⟨rfl, rfl⟩; rw [h1]) | (go_at_call 97; refine hI.out.mono ?_; rintro e w' ⟨rfl, hb⟩))
    go_ret
    exact ⟨by simp, below_trans HW.out hb⟩

theorem spec_l09Over (A : Option Addr) (c : Nat) (xs : List Int) (n : Int) (w : World) (h : Sl eInt w (Old w) A c xs) (hn : 1 ≤ n) (hn' : n ≤ 1048576) :
    Calls Try.prog 154 #[.slice A xs.length c, .int .i64 n] w fun e w' => e = .returned (.bool (isTagW xs n)) ∧ w = w' := by
  have hlen := h.len
  have H := Lib.hid h; clear h
  have HV : Hid (isTagW xs n = (decide (xs.length ≤ 1000) && !xs.any (outB 0 (n - 1)))) := rfl
  go_enter Try.func154, Try.ntmps154
  go_wp2
  go_loop [5] (fun i => ∃ k : Nat, k ≤ xs.length ∧ i = .int .i64 k ∧ Hid ((xs.take k).any (outB 0 (n - 1)) = false)) (fun i => xs.length - (intOf i).toNat)
  case atStart => exact ⟨0, Nat.zero_le _, rfl, rfl⟩
  case round =>
    obtain ⟨k, hk, rfl, HN⟩ := hrel
    by_cases hlt : k < xs.length
    · have hltz : (k : Int) < (xs.length : Int) := by omega
      obtain ⟨b, off, es, rfl, hb, ⟨rfl, _⟩, hc⟩ := H.out.at1 rfl hlt
      have d0 : w.cell? ⟨b, off + k, none⟩ = some (.int .i64 xs[k]) := hc _ rfl
      clear hc
      have HT : Hid (outB 0 (n - 1) xs[k] = true → xs.any (outB 0 (n - 1)) = true) := fun e => any_hit hlt e
      have HS : Hid (outB 0 (n - 1) xs[k] = false → (xs.take (k + 1)).any (outB 0 (n - 1)) = false) := fun e => any_step hlt HN.out e
      generalize xs[k] = y at d0 HT HS
      cases q1 : withinB y 0 (n - 1)
      · go_wp2_with (go_at_call 119; refine (spec_l00In _ _ _ _).mono ?_; rintro e w' ⟨rfl, rfl⟩; rw [q1])
        go_ret
        exact ⟨ret_bool (by rw [HV.out, HT.out (by unfold outB; rw [q1]; rfl)]; simp), rfl⟩
      · go_wp2_with (go_at_call 119; refine (spec_l00In _ _ _ _).mono ?_; rintro e w' ⟨rfl, rfl⟩; rw [q1])
        go_round
        case rel => exact ⟨k + 1, by omega, by go_num, HS.out (by unfold outB; rw [q1]; rfl)⟩
        case measure => simp [intOf]; omega
    · have hltz : ¬ (k : Int) < (xs.length : Int) := by omega
      obtain rfl : k = xs.length := by omega
      go_wp2
      go_ret
      have hn := HN.out
      rw [List.take_length] at hn
      exact ⟨ret_bool (by rw [HV.out, hn]; simp; omega), rfl⟩

theorem spec_l09Bits (A : Option Addr) (c : Nat) (xs : List Int) (w : World) (h : Sl eInt w (Old w) A c xs) :
    Calls Try.prog 138 #[.slice A xs.length c] w fun e w' => e = .returned (.bool (isTagW xs 2)) ∧ w = w' := by
  have H := Lib.hid h; clear h
  go_enter Try.func138, Try.ntmps138
  go_wp2_with (go_at_call 154; refine (spec_l09Over _ _ _ _ _ H.out (by omega) (by omega)).mono ?_; rintro e w' ⟨rfl, rfl⟩)
  go_ret
  exact ⟨rfl, rfl⟩

theorem spec_l09IsCyclic (B : Nat) (A : Option Addr) (c : Nat) (xs : tCyclic) (w : World) (hB : w.cell? ⟨B, 0, none⟩ = some (.slice A xs.length c)) (h : Sl (eSl eInt) w (Old w) A c xs) :
    Calls Try.prog 94 #[.pointer (some ⟨B, 0, none⟩)] w fun e w' => e = .returned (.bool (validCyc xs)) ∧ w = w' := by
  have hlen := h.len
  have H := Lib.hid h; clear h
  have HV : Hid (validCyc xs = (withinB xs.length 1 400 && !xs.any (notTagW 2))) := rfl
  go_enter Try.func94, Try.ntmps94
  go_wp2
  go_loop [3] (fun i => ∃ k : Nat, k ≤ xs.length ∧ i = .int .i64 k ∧ Hid ((xs.take k).any (notTagW 2) = false)) (fun i => xs.length - (intOf i).toNat)
  case atStart => exact ⟨0, Nat.zero_le _, rfl, rfl⟩
  case round =>
    obtain ⟨k, hk, rfl, HN⟩ := hrel
    by_cases hlt : k < xs.length
    · have hltz : (k : Int) < (xs.length : Int) := by omega
      obtain ⟨b, off, es, rfl, hb, ⟨A', c', rfl, g⟩, hc⟩ := H.out.at1 rfl hlt
      have d0 : w.cell? ⟨b, off + k, none⟩ = some (.slice A' xs[k].length c') := hc _ rfl
      clear hc
      have HG := Lib.hid (spec_l09Bits _ _ _ w g); clear g
      have HT : Hid (notTagW 2 xs[k] = true → xs.any (notTagW 2) = true) := fun e => any_hit hlt e
      have HS : Hid (notTagW 2 xs[k] = false → (xs.take (k + 1)).any (notTagW 2) = false) := fun e => any_step hlt HN.out e
      generalize xs[k] = y at d0 HT HS HG
      cases q1 : isTagW y 2
      · go_wp2_with (go_at_call 138; refine HG.out.mono ?_; rintro e w' ⟨rfl, rfl⟩; rw [q1])
        go_ret
        exact ⟨ret_bool (by rw [HV.out, HT.out (by unfold notTagW; rw [q1]; rfl)]; simp), rfl⟩
      · go_wp2_with (go_at_call 138; refine HG.out.mono ?_; rintro e w' ⟨rfl, rfl⟩; rw [q1])
        go_round
        case rel => exact ⟨k + 1, by omega, by go_num, HS.out (by unfold notTagW; rw [q1]; rfl)⟩
        case measure => simp [intOf]; omega
    · have hltz : ¬ (k : Int) < (xs.length : Int) := by omega
      obtain rfl : k = xs.length := by omega
      have hn := HN.out
      rw [List.take_length] at hn
      have HV2 := Lib.hid hn; clear hn
      by_cases h0 : 0 < xs.length
      · have h0' : decide ((0 : Int) < (xs.length : Int)) = true := decide_eq_true (by omega)
        go_wp2
        go_ret
        exact ⟨ret_bool (by rw [HV.out, HV2.out]; unfold withinB; rw [decide_eq_true (show (1 : Int) ≤ xs.length by omega)]; simp), rfl⟩
      · have h0' : decide ((0 : Int) < (xs.length : Int)) = false := decide_eq_false (by omega)
        go_wp2
        go_ret
        exact ⟨ret_bool (by rw [HV.out, HV2.out, withinB_false.2 (by omega)]; rfl), rfl⟩

theorem Calls.flip {P : Program} {f : FuncId} {args : Array Value} {w : World} {v : Value} (h : Calls P f args w fun e w' => e = .returned v ∧ w = w') : Calls P f args w fun e w' => e = .returned v ∧ w' = w :=
  h.mono fun _ _ ⟨he, hw⟩ => ⟨he, hw.symm⟩

def validTurn (c : tCyclic) (x : tTurn) : Bool := validCyc c && withinB x.1 0 (c.length - 1) && isTagW x.2 2

set_option maxRecDepth 100000 in
set_option maxHeartbeats 2000000 in
theorem impl_ValidTurn (es : List Value) (x : tCyclic) (es' : List Value) (y : tTurn) (w : World) (h : eCyclic.R w (Old w) es x) (h' : eTurn.R w (Old w) es' y) :
    Calls Try.prog 54 #[.agg es.toArray, .agg es'.toArray] w fun e w' => e = .returned (.bool (validTurn x y)) ∧ Below w.heap.size w w' := by
  obtain ⟨A, c, rfl, g⟩ := shape_Cyclic h
  obtain ⟨A1, c1, rfl, _, g1⟩ := shape_Turn h'
  clear h h'
  have hlen := g.len
  have hW : Below w.heap.size w ((w.alloc (.cells #[.slice A x.length c] 48)).alloc (.cells #[.int .i64 y.1, .slice A1 y.2.length c1] 73)) := by go_grown
  have hX := Lib.hid ((Blk.new w 48 #[.slice A x.length c]).alloc (.cells #[.int .i64 y.1, .slice A1 y.2.length c1] 73))
  have hY := Lib.hid (Blk.new1 w (.cells #[.slice A x.length c] 48) 73 #[.int .i64 y.1, .slice A1 y.2.length c1])
  have hI := Lib.hid (impl_ValidCyclic _ x _ (show eCyclic.R _ (Old _) [.slice A x.length c] x from ⟨A, c, rfl, (g.on hW).on (Below.refl _ _).drew⟩))
  have K1 := Lib.hid (g1.on (hW.drew)); 
  have HW := Lib.hid hW; clear hW g g1
  cases q1 : validCyc x
  · rw [show validTurn x y = false from by unfold validTurn; rw [q1]; rfl]
    rw [q1] at hI
    go_enter Try.func54, Try.ntmps54
    go_wp2_with fail
    first
      | (go_region_with (first
          | (go_at_call 35; refine hI.out.mono ?_; rintro e w1 ⟨rfl, hb⟩; have HB := Lib.hid hb; clear hb)))
      | fail
    all_goals
      go_wp2
      go_ret
      exact ⟨rfl, HW.out.drew.trans (HB.out.mono HW.out.size)⟩
  · rw [show validTurn x y = (withinB y.1 0 (x.length - 1) && isTagW y.2 2) from by unfold validTurn; rw [q1]; rfl]
    rw [q1] at hI
    have q1' : (1 : Int) ≤ x.length := by
      unfold validCyc at q1
      rw [Bool.and_eq_true] at q1
      exact (withinB_true.1 q1.1).1
    have hwr : IntKind.i64.wrap ((x.length : Int) - 1) = x.length - 1 := IntWalk.i64_in _ (by omega)
    cases q2 : withinB y.1 0 (x.length - 1)
    · go_enter Try.func54, Try.ntmps54
      go_wp2_with fail
      first
        | (go_region_with (first
            | (go_at_call 35; refine hI.out.mono ?_; rintro e w1 ⟨rfl, hb⟩; have x0 : w1.cell? ⟨w.heap.size, 0, none⟩ = some (.slice A x.length c) := (hX.out.on (below_trans (Below.refl _ _).drew hb)).cell 0; have y0 : w1.cell? ⟨w.heap.size + 1, 0, none⟩ = some (.int .i64 y.1) := (hY.out.on (below_trans (Below.refl _ _).drew hb)).cell 0; have HB := Lib.hid hb; clear hb)
            | (go_at_call 96; refine (impl_size_Int64S _ _ _ _).mono ?_; rintro e w' ⟨rfl, rfl⟩)
            | (go_at_call 72; (try rw [hwr]); refine (impl_within _ _ _ _).mono ?_; rintro e w' ⟨rfl, rfl⟩; rw [q2])))
        | fail
      all_goals
        go_wp2
        go_ret
        exact ⟨rfl, HW.out.drew.trans (HB.out.mono HW.out.size)⟩
    · go_enter Try.func54, Try.ntmps54
      go_wp2_with fail
      go_region_with (first
        | (go_at_call 35; refine hI.out.mono ?_; rintro e w1 ⟨rfl, hb⟩; have x0 : w1.cell? ⟨w.heap.size, 0, none⟩ = some (.slice A x.length c) := (hX.out.on (below_trans (Below.refl _ _).drew hb)).cell 0; have y0 : w1.cell? ⟨w.heap.size + 1, 0, none⟩ = some (.int .i64 y.1) := (hY.out.on (below_trans (Below.refl _ _).drew hb)).cell 0; have y1 : w1.cell? ⟨w.heap.size + 1, 1, none⟩ = some (.slice A1 y.2.length c1) := (hY.out.on (below_trans (Below.refl _ _).drew hb)).cell 1; have HB := Lib.hid hb; clear hb)
        | (go_at_call 96; refine (impl_size_Int64S _ _ _ _).mono ?_; rintro e w' ⟨rfl, rfl⟩)
        | (go_at_call 72; (try rw [hwr]); refine (impl_within _ _ _ _).mono ?_; rintro e w' ⟨rfl, rfl⟩; rw [q2])
        | (go_at_call 118; refine (impl_isTagWord _ _ _ _ _ (K1.out.on HB.out) (by omega) (by omega)).mono ?_; rintro e w' ⟨rfl, rfl⟩))
      all_goals
        go_wp2
        go_ret
        exact ⟨rfl, HW.out.drew.trans (HB.out.mono HW.out.size)⟩

set_option maxRecDepth 100000 in
set_option maxHeartbeats 1000000 in
theorem spec_l09Turn (B B' : Nat) (A A1 : Option Addr) (c c1 : Nat) (x : tCyclic) (y : tTurn) (w : World) (hB : w.cell? ⟨B, 0, none⟩ = some (.slice A x.length c)) (hB0 : w.cell? ⟨B', 0, none⟩ = some (.int .i64 y.1)) (hB1 : w.cell? ⟨B', 1, none⟩ = some (.slice A1 y.2.length c1))
    (hx : 1 ≤ x.length) (hx' : x.length ≤ 400) (g1 : Sl eInt w (Old w) A1 c1 y.2) :
    Calls Try.prog 116 #[.pointer (some ⟨B, 0, none⟩), .pointer (some ⟨B', 0, none⟩)] w fun e w' => e = .returned (.bool (withinB y.1 0 (x.length - 1) && isTagW y.2 2)) ∧ Below w.heap.size w w' := by
  have K1 := Lib.hid g1; clear g1
  have hC := Lib.hid fun W => Calls.flip (spec_l00In y.1 0 (x.length - 1) W)
  cases q1 : withinB y.1 0 (x.length - 1)
  · rw [q1] at hC
    go_enter Try.func116, Try.ntmps116
    go_wp2_with fail
    go_quiet ((go_at_call 119; exact Calls.quiet_of_same (hC.out _)))
    go_wp2
    go_ret
    exact ⟨rfl, below_drewN (Below.refl _ _) _⟩
  · rw [q1] at hC
    have hD := Lib.hid fun n => Calls.flip (spec_l09Bits A1 c1 y.2 (w.drewN n) (K1.out.on (below_drewN (Below.refl _ _) n)))
    go_enter Try.func116, Try.ntmps116
    go_wp2_with fail
    go_quiet (first | (go_at_call 119; exact Calls.quiet_of_same (hC.out _)) | (go_at_call 138; exact Calls.quiet_of_same (hD.out _)))
    go_wp2
    go_ret
    exact ⟨rfl, below_drewN (Below.refl _ _) _⟩

set_option maxHeartbeats 400000 in
theorem spec_ValidTurn (es : List Value) (x : tCyclic) (es' : List Value) (y : tTurn) (w : World) (h : eCyclic.R w (Old w) es x) (h' : eTurn.R w (Old w) es' y) :
    Calls Try.prog 52 #[.agg es.toArray, .agg es'.toArray] w fun e w' => e = .returned (.bool (validTurn x y)) ∧ Below w.heap.size w w' := by
  obtain ⟨A, c, rfl, g⟩ := shape_Cyclic h
  obtain ⟨A1, c1, rfl, _, g1⟩ := shape_Turn h'
  clear h h'
  have hW : Below w.heap.size w ((w.alloc (.cells #[.slice A x.length c] 48)).alloc (.cells #[.int .i64 y.1, .slice A1 y.2.length c1] 73)) := by go_grown
  have hX := ((Blk.new w 48 #[.slice A x.length c]).alloc (.cells #[.int .i64 y.1, .slice A1 y.2.length c1] 73))
  have hY := (Blk.new1 w (.cells #[.slice A x.length c] 48) 73 #[.int .i64 y.1, .slice A1 y.2.length c1])
  have hI := Lib.hid (spec_l09IsCyclic w.heap.size A c x _ (hX.cell 0) (g.on hW))
  have hT := Lib.hid fun h1 h2 => spec_l09Turn w.heap.size (w.heap.size + 1) A A1 c c1 x y _ (hX.cell 0) (hY.cell 0) (hY.cell 1) h1 h2 (g1.on hW)
  have HW := Lib.hid hW; clear hW g g1 hX hY
  cases q1 : validCyc x
  · rw [show validTurn x y = false from by unfold validTurn; rw [q1]; rfl]
    rw [q1] at hI
    go_enter Try.func52, Try.ntmps52
    go_wp2_with (go_at_call 94; refine hI.out.mono ?_; rintro e w' ⟨rfl, rfl⟩)
    go_ret
    exact ⟨rfl, HW.out⟩
  · rw [show validTurn x y = (withinB y.1 0 (x.length - 1) && isTagW y.2 2) from by unfold validTurn; rw [q1]; rfl]
    have q1' : (1 : Int) ≤ x.length ∧ (x.length : Int) ≤ 400 := by
      have q3 := q1
      unfold validCyc at q3
      rw [Bool.and_eq_true] at q3
      exact withinB_true.1 q3.1
    have hT2 := Lib.hid (hT.out (by omega) (by omega)); clear q1'
    rw [q1] at hI
    go_enter Try.func52, Try.ntmps52
    go_wp2_with (first | (go_at_call 94; refine hI.out.mono ?_; rintro e w' ⟨rfl, rfl⟩) | (go_at_call 116; refine hT2.out.mono ?_; rintro e w' ⟨rfl, hb⟩))
    go_ret
    exact ⟨rfl, below_trans HW.out hb⟩

set_option maxRecDepth 100000 in
set_option maxHeartbeats 4000000 in
theorem law_ValidTurn (es0 : List Value) (a0 : tCyclic) (es1 : List Value) (a1 : tTurn) (w : World) (h0 : eCyclic.R w (Old w) es0 a0) (h1 : eTurn.R w (Old w) es1 a1) :
    Calls Try.prog 11 #[.agg es0.toArray, .agg es1.toArray] w fun e w' => e = .returned (.bool true) ∧ Below w.heap.size w w' := by
  have H0 := Lib.hid h0
  obtain ⟨Aa00, ca00, rfl, ga00⟩ := shape_Cyclic h0
  clear ga00
  try clear h0
  have H1 := Lib.hid h1
  obtain ⟨Aa11, ca11, rfl, ga10, ga11⟩ := shape_Turn h1
  clear ga10 ga11
  try clear h1
  have HB0 : Hid (Below w.heap.size w ((w.alloc (.cells #[.slice Aa00 a0.length ca00] 45)).alloc (.cells #[.int .i64 a1.1, .slice Aa11 a1.2.length ca11] 70))) := by show Below _ _ _; go_grown
  by_cases t0 : (1048576 : Int) - (cost_Cyclic a0 : Nat) < 0
  · go_enter Try.func11, Try.ntmps11
    go_wp2_with fail
    refine (sz_Cyclic _ a0 _ _ (by exact eCyclic.on H0.out HB0.out) (by omega) (by omega)).mono ?_
    rintro e z0 ⟨rfl, hb⟩
    rw [left_neg (by omega)]
    have HBz0 := Lib.hid (below_trans HB0.out hb)
    have HX0z0 := Lib.hid (((Blk.new w 45 #[.slice Aa00 a0.length ca00]).alloc _).on hb)
    have HX1z0 := Lib.hid ((Blk.new1 w _ 70 #[.int .i64 a1.1, .slice Aa11 a1.2.length ca11]).on hb)
    clear hb
    have fa0_0 : z0.cell? ⟨w.heap.size, 0, none⟩ = some (.slice Aa00 a0.length ca00) := HX0z0.out.cell 0
    have fa1_0 : z0.cell? ⟨w.heap.size + 1, 0, none⟩ = some (.int .i64 a1.1) := HX1z0.out.cell 0
    have fa1_1 : z0.cell? ⟨w.heap.size + 1, 1, none⟩ = some (.slice Aa11 a1.2.length ca11) := HX1z0.out.cell 1
    go_wp2
    go_ret
    exact ⟨rfl, HBz0.out⟩
  by_cases t1 : (1048576 : Int) - (cost_Cyclic a0 : Nat) - (cost_Turn a1 : Nat) < 0
  · go_enter Try.func11, Try.ntmps11
    go_wp2_with fail
    refine (sz_Cyclic _ a0 _ _ (by exact eCyclic.on H0.out HB0.out) (by omega) (by omega)).mono ?_
    rintro e z0 ⟨rfl, hb⟩
    rw [left_pos (by omega)]
    have HBz0 := Lib.hid (below_trans HB0.out hb)
    have HX0z0 := Lib.hid (((Blk.new w 45 #[.slice Aa00 a0.length ca00]).alloc _).on hb)
    have HX1z0 := Lib.hid ((Blk.new1 w _ 70 #[.int .i64 a1.1, .slice Aa11 a1.2.length ca11]).on hb)
    clear hb
    have fa0_0 : z0.cell? ⟨w.heap.size, 0, none⟩ = some (.slice Aa00 a0.length ca00) := HX0z0.out.cell 0
    have fa1_0 : z0.cell? ⟨w.heap.size + 1, 0, none⟩ = some (.int .i64 a1.1) := HX1z0.out.cell 0
    have fa1_1 : z0.cell? ⟨w.heap.size + 1, 1, none⟩ = some (.slice Aa11 a1.2.length ca11) := HX1z0.out.cell 1
    go_wp2_with fail
    refine (sz_Turn _ a1 _ _ (by exact eTurn.on H1.out HBz0.out) (by omega) (by omega)).mono ?_
    rintro e z1 ⟨rfl, hb⟩
    rw [left_neg (by omega)]
    have hbp : Below z0.heap.size z0 z1 := hb
    have HBz1 := Lib.hid (below_trans HBz0.out hbp)
    have HX0z0_ := Lib.hid (HX0z0.out.on hbp); clear HX0z0; have HX0z0 := HX0z0_; clear HX0z0_
    have HX1z0_ := Lib.hid (HX1z0.out.on hbp); clear HX1z0; have HX1z0 := HX1z0_; clear HX1z0_
    clear hbp
    clear hb
    clear fa0_0 fa1_0 fa1_1
    have fa0_0 : z1.cell? ⟨w.heap.size, 0, none⟩ = some (.slice Aa00 a0.length ca00) := HX0z0.out.cell 0
    have fa1_0 : z1.cell? ⟨w.heap.size + 1, 0, none⟩ = some (.int .i64 a1.1) := HX1z0.out.cell 0
    have fa1_1 : z1.cell? ⟨w.heap.size + 1, 1, none⟩ = some (.slice Aa11 a1.2.length ca11) := HX1z0.out.cell 1
    go_wp2
    go_ret
    exact ⟨rfl, HBz1.out⟩
  have HC0 : Hid (cost_Cyclic a0 ≤ 1048576) := by show _ ≤ _; omega
  have HC1 : Hid (cost_Turn a1 ≤ 1048576) := by show _ ≤ _; omega
  go_enter Try.func11, Try.ntmps11
  go_wp2_with fail
  refine (sz_Cyclic _ a0 _ _ (by exact eCyclic.on H0.out HB0.out) (by omega) (by omega)).mono ?_
  rintro e z0 ⟨rfl, hb⟩
  rw [left_pos (by omega)]
  have HBz0 := Lib.hid (below_trans HB0.out hb)
  have HX0z0 := Lib.hid (((Blk.new w 45 #[.slice Aa00 a0.length ca00]).alloc _).on hb)
  have HX1z0 := Lib.hid ((Blk.new1 w _ 70 #[.int .i64 a1.1, .slice Aa11 a1.2.length ca11]).on hb)
  clear hb
  have fa0_0 : z0.cell? ⟨w.heap.size, 0, none⟩ = some (.slice Aa00 a0.length ca00) := HX0z0.out.cell 0
  have fa1_0 : z0.cell? ⟨w.heap.size + 1, 0, none⟩ = some (.int .i64 a1.1) := HX1z0.out.cell 0
  have fa1_1 : z0.cell? ⟨w.heap.size + 1, 1, none⟩ = some (.slice Aa11 a1.2.length ca11) := HX1z0.out.cell 1
  go_wp2_with fail
  refine (sz_Turn _ a1 _ _ (by exact eTurn.on H1.out HBz0.out) (by omega) (by omega)).mono ?_
  rintro e z1 ⟨rfl, hb⟩
  rw [left_pos (by omega)]
  have hbp : Below z0.heap.size z0 z1 := hb
  have HBz1 := Lib.hid (below_trans HBz0.out hbp)
  have HX0z0_ := Lib.hid (HX0z0.out.on hbp); clear HX0z0; have HX0z0 := HX0z0_; clear HX0z0_
  have HX1z0_ := Lib.hid (HX1z0.out.on hbp); clear HX1z0; have HX1z0 := HX1z0_; clear HX1z0_
  clear hbp
  clear hb
  clear fa0_0 fa1_0 fa1_1
  have fa0_0 : z1.cell? ⟨w.heap.size, 0, none⟩ = some (.slice Aa00 a0.length ca00) := HX0z0.out.cell 0
  have fa1_0 : z1.cell? ⟨w.heap.size + 1, 0, none⟩ = some (.int .i64 a1.1) := HX1z0.out.cell 0
  have fa1_1 : z1.cell? ⟨w.heap.size + 1, 1, none⟩ = some (.slice Aa11 a1.2.length ca11) := HX1z0.out.cell 1
  go_wp2_with fail
  go_region_held3 (fun w' => w'.cell? ⟨w.heap.size, 0, none⟩ = some (.slice Aa00 a0.length ca00) ∧ w'.cell? ⟨w.heap.size + 1, 0, none⟩ = some (.int .i64 a1.1) ∧ w'.cell? ⟨w.heap.size + 1, 1, none⟩ = some (.slice Aa11 a1.2.length ca11)) (first | (simp [go_sem, *]; done) | (refine ⟨?_, ?_, ?_⟩ <;> assumption))
    (first
      | (go_at_call 34; refine (to_Cyclic _ a0 _ (by exact eCyclic.on H0.out (HBz1.out.drew)) HC0.out).mono ?_; rintro e ws0 ⟨ess0, rfl, ho, hb⟩; (have hR := eCyclic.read ho); (have HSs0 := Lib.hid ho; clear ho); obtain ⟨As00, cs00, rfl, gs00⟩ := shape_Cyclic hR; (clear gs00); (try clear hR); (have hbp : Below z1.heap.size z1 ws0 := below_trans ((Below.refl _ _).drew) hb); (have HBws0 := Lib.hid (below_trans HBz1.out hbp)); (have HX0z0_ := Lib.hid (HX0z0.out.on hbp); clear HX0z0; have HX0z0 := HX0z0_; clear HX0z0_); (have HX1z0_ := Lib.hid (HX1z0.out.on hbp); clear HX1z0; have HX1z0 := HX1z0_; clear HX1z0_); (clear hbp); (clear hb); (clear fa0_0 fa1_0 fa1_1); (have fa0_0 : ws0.cell? ⟨w.heap.size, 0, none⟩ = some (.slice Aa00 a0.length ca00) := HX0z0.out.cell 0); (have fa1_0 : ws0.cell? ⟨w.heap.size + 1, 0, none⟩ = some (.int .i64 a1.1) := HX1z0.out.cell 0); (have fa1_1 : ws0.cell? ⟨w.heap.size + 1, 1, none⟩ = some (.slice Aa11 a1.2.length ca11) := HX1z0.out.cell 1))
      | (go_at_call 53; refine (to_Turn _ a1 _ (by exact eTurn.on H1.out HBws0.out) HC1.out).mono ?_; rintro e ws1 ⟨ess1, rfl, ho, hb⟩; (have hR := eTurn.read ho); (have HSs1 := Lib.hid ho; clear ho); obtain ⟨As11, cs11, rfl, gs10, gs11⟩ := shape_Turn hR; (clear gs10 gs11); (try clear hR); (have hbp : Below ws0.heap.size ws0 ws1 := hb); (have HBws1 := Lib.hid (below_trans HBws0.out hbp)); (have HX0z0_ := Lib.hid (HX0z0.out.on hbp); clear HX0z0; have HX0z0 := HX0z0_; clear HX0z0_); (have HX1z0_ := Lib.hid (HX1z0.out.on hbp); clear HX1z0; have HX1z0 := HX1z0_; clear HX1z0_); (have HSs0_ := Lib.hid (eCyclic.oon HSs0.out hbp); clear HSs0; have HSs0 := HSs0_; clear HSs0_); (clear hbp); (clear hb); (clear fa0_0 fa1_0 fa1_1); (have fa0_0 : ws1.cell? ⟨w.heap.size, 0, none⟩ = some (.slice Aa00 a0.length ca00) := HX0z0.out.cell 0); (have fa1_0 : ws1.cell? ⟨w.heap.size + 1, 0, none⟩ = some (.int .i64 a1.1) := HX1z0.out.cell 0); (have fa1_1 : ws1.cell? ⟨w.heap.size + 1, 1, none⟩ = some (.slice Aa11 a1.2.length ca11) := HX1z0.out.cell 1))
      | (go_at_call 52; refine (spec_ValidTurn _ a0 _ a1 _ (by exact eCyclic.old HSs0.out) (by exact eTurn.old HSs1.out)).mono ?_; rintro e v0 ⟨rfl, hb⟩; (have hbp : Below ws1.heap.size ws1 v0 := hb); (have HBv0 := Lib.hid (below_trans HBws1.out hbp)); (have HX0z0_ := Lib.hid (HX0z0.out.on hbp); clear HX0z0; have HX0z0 := HX0z0_; clear HX0z0_); (have HX1z0_ := Lib.hid (HX1z0.out.on hbp); clear HX1z0; have HX1z0 := HX1z0_; clear HX1z0_); (clear hbp); (clear hb); (clear fa0_0 fa1_0 fa1_1); (have fa0_0 : v0.cell? ⟨w.heap.size, 0, none⟩ = some (.slice Aa00 a0.length ca00) := HX0z0.out.cell 0); (have fa1_0 : v0.cell? ⟨w.heap.size + 1, 0, none⟩ = some (.int .i64 a1.1) := HX1z0.out.cell 0); (have fa1_1 : v0.cell? ⟨w.heap.size + 1, 1, none⟩ = some (.slice Aa11 a1.2.length ca11) := HX1z0.out.cell 1)))
  go_wp2_with fail
  refine (to_Cyclic _ a0 _ (by exact eCyclic.on H0.out HBv0.out) HC0.out).mono ?_
  rintro e wx0 ⟨esx0, rfl, ho, hb⟩
  have hR := eCyclic.read ho
  have HSx0 := Lib.hid ho; clear ho
  obtain ⟨Ax00, cx00, rfl, gx00⟩ := shape_Cyclic hR
  clear gx00
  try clear hR
  have hbp : Below v0.heap.size v0 wx0 := hb
  have HBwx0 := Lib.hid (below_trans HBv0.out hbp)
  have HX0z0_ := Lib.hid (HX0z0.out.on hbp); clear HX0z0; have HX0z0 := HX0z0_; clear HX0z0_
  have HX1z0_ := Lib.hid (HX1z0.out.on hbp); clear HX1z0; have HX1z0 := HX1z0_; clear HX1z0_
  clear hbp
  clear hb
  clear fa0_0 fa1_0 fa1_1
  have fa0_0 : wx0.cell? ⟨w.heap.size, 0, none⟩ = some (.slice Aa00 a0.length ca00) := HX0z0.out.cell 0
  have fa1_0 : wx0.cell? ⟨w.heap.size + 1, 0, none⟩ = some (.int .i64 a1.1) := HX1z0.out.cell 0
  have fa1_1 : wx0.cell? ⟨w.heap.size + 1, 1, none⟩ = some (.slice Aa11 a1.2.length ca11) := HX1z0.out.cell 1
  have ma0_0_x0 : (wx0.alloc (.cells #[.slice Ax00 a0.length cx00] 48)).cell? ⟨w.heap.size, 0, none⟩ = some (.slice Aa00 a0.length ca00) := (HX0z0.out.alloc _).cell 0
  have ma1_0_x0 : (wx0.alloc (.cells #[.slice Ax00 a0.length cx00] 48)).cell? ⟨w.heap.size + 1, 0, none⟩ = some (.int .i64 a1.1) := (HX1z0.out.alloc _).cell 0
  have ma1_1_x0 : (wx0.alloc (.cells #[.slice Ax00 a0.length cx00] 48)).cell? ⟨w.heap.size + 1, 1, none⟩ = some (.slice Aa11 a1.2.length ca11) := (HX1z0.out.alloc _).cell 1
  go_wp2_with fail
  refine (to_Turn _ a1 _ (by exact eTurn.on H1.out (below_alloc HBwx0.out (.cells #[.slice Ax00 a0.length cx00] 48))) HC1.out).mono ?_
  rintro e wx1 ⟨esx1, rfl, ho, hb⟩
  have hR := eTurn.read ho
  have HSx1 := Lib.hid ho; clear ho
  obtain ⟨Ax11, cx11, rfl, gx10, gx11⟩ := shape_Turn hR
  clear gx10 gx11
  try clear hR
  have hbp : Below wx0.heap.size wx0 wx1 := below_trans (below_alloc (Below.refl _ _) (.cells #[.slice Ax00 a0.length cx00] 48)) hb
  have HBwx1 := Lib.hid (below_trans HBwx0.out hbp)
  have HX0z0_ := Lib.hid (HX0z0.out.on hbp); clear HX0z0; have HX0z0 := HX0z0_; clear HX0z0_
  have HX1z0_ := Lib.hid (HX1z0.out.on hbp); clear HX1z0; have HX1z0 := HX1z0_; clear HX1z0_
  have HXx0 := Lib.hid ((Blk.new wx0 48 #[.slice Ax00 a0.length cx00]).on hb)
  have HSx0_ := Lib.hid (eCyclic.oon HSx0.out hbp); clear HSx0; have HSx0 := HSx0_; clear HSx0_
  clear hbp
  clear hb
  clear fa0_0 fa1_0 fa1_1 ma0_0_x0 ma1_0_x0 ma1_1_x0
  have fa0_0 : wx1.cell? ⟨w.heap.size, 0, none⟩ = some (.slice Aa00 a0.length ca00) := HX0z0.out.cell 0
  have fa1_0 : wx1.cell? ⟨w.heap.size + 1, 0, none⟩ = some (.int .i64 a1.1) := HX1z0.out.cell 0
  have fa1_1 : wx1.cell? ⟨w.heap.size + 1, 1, none⟩ = some (.slice Aa11 a1.2.length ca11) := HX1z0.out.cell 1
  have fx0_0 : wx1.cell? ⟨wx0.heap.size, 0, none⟩ = some (.slice Ax00 a0.length cx00) := HXx0.out.cell 0
  have ma0_0_x1 : (wx1.alloc (.cells #[.int .i64 a1.1, .slice Ax11 a1.2.length cx11] 73)).cell? ⟨w.heap.size, 0, none⟩ = some (.slice Aa00 a0.length ca00) := (HX0z0.out.alloc _).cell 0
  have ma1_0_x1 : (wx1.alloc (.cells #[.int .i64 a1.1, .slice Ax11 a1.2.length cx11] 73)).cell? ⟨w.heap.size + 1, 0, none⟩ = some (.int .i64 a1.1) := (HX1z0.out.alloc _).cell 0
  have ma1_1_x1 : (wx1.alloc (.cells #[.int .i64 a1.1, .slice Ax11 a1.2.length cx11] 73)).cell? ⟨w.heap.size + 1, 1, none⟩ = some (.slice Aa11 a1.2.length ca11) := (HX1z0.out.alloc _).cell 1
  have mx0_0_x1 : (wx1.alloc (.cells #[.int .i64 a1.1, .slice Ax11 a1.2.length cx11] 73)).cell? ⟨wx0.heap.size, 0, none⟩ = some (.slice Ax00 a0.length cx00) := (HXx0.out.alloc _).cell 0
  go_wp2_with fail
  refine (impl_ValidTurn _ a0 _ a1 _ (by exact eCyclic.old (eCyclic.oon HSx0.out (below_alloc (Below.refl _ _) (.cells #[.int .i64 a1.1, .slice Ax11 a1.2.length cx11] 73)))) (by exact eTurn.old (eTurn.oon HSx1.out (below_alloc (Below.refl _ _) (.cells #[.int .i64 a1.1, .slice Ax11 a1.2.length cx11] 73))))).mono ?_
  rintro e v1 ⟨rfl, hb⟩
  have hbp : Below wx1.heap.size wx1 v1 := below_trans (below_alloc (Below.refl _ _) (.cells #[.int .i64 a1.1, .slice Ax11 a1.2.length cx11] 73)) hb
  have HBv1 := Lib.hid (below_trans HBwx1.out hbp)
  have HX0z0_ := Lib.hid (HX0z0.out.on hbp); clear HX0z0; have HX0z0 := HX0z0_; clear HX0z0_
  have HX1z0_ := Lib.hid (HX1z0.out.on hbp); clear HX1z0; have HX1z0 := HX1z0_; clear HX1z0_
  have HXx0_ := Lib.hid (HXx0.out.on hbp); clear HXx0; have HXx0 := HXx0_; clear HXx0_
  have HXx1 := Lib.hid ((Blk.new wx1 73 #[.int .i64 a1.1, .slice Ax11 a1.2.length cx11]).on hb)
  have HSx0_ := Lib.hid (eCyclic.oon HSx0.out hbp); clear HSx0; have HSx0 := HSx0_; clear HSx0_
  have HSx1_ := Lib.hid (eTurn.oon HSx1.out hbp); clear HSx1; have HSx1 := HSx1_; clear HSx1_
  clear hbp
  clear hb
  clear fa0_0 fa1_0 fa1_1 fx0_0 ma0_0_x1 ma1_0_x1 ma1_1_x1 mx0_0_x1
  have fa0_0 : v1.cell? ⟨w.heap.size, 0, none⟩ = some (.slice Aa00 a0.length ca00) := HX0z0.out.cell 0
  have fa1_0 : v1.cell? ⟨w.heap.size + 1, 0, none⟩ = some (.int .i64 a1.1) := HX1z0.out.cell 0
  have fa1_1 : v1.cell? ⟨w.heap.size + 1, 1, none⟩ = some (.slice Aa11 a1.2.length ca11) := HX1z0.out.cell 1
  have fx0_0 : v1.cell? ⟨wx0.heap.size, 0, none⟩ = some (.slice Ax00 a0.length cx00) := HXx0.out.cell 0
  have fx1_0 : v1.cell? ⟨wx1.heap.size, 0, none⟩ = some (.int .i64 a1.1) := HXx1.out.cell 0
  have fx1_1 : v1.cell? ⟨wx1.heap.size, 1, none⟩ = some (.slice Ax11 a1.2.length cx11) := HXx1.out.cell 1
  go_wp2_with fail
  go_region_held3 (fun w' => w'.cell? ⟨w.heap.size, 0, none⟩ = some (.slice Aa00 a0.length ca00) ∧ w'.cell? ⟨wx0.heap.size, 0, none⟩ = some (.slice Ax00 a0.length cx00)) (first | (simp [go_sem, *]; done) | (refine ⟨?_, ?_⟩ <;> assumption))
    (first
      | (go_at_call 34; refine (to_Cyclic _ a0 _ (by exact eCyclic.on H0.out (HBv1.out.drew)) HC0.out).mono ?_; rintro e wy0 ⟨esy0, rfl, ho, hb⟩; (have hR := eCyclic.read ho); (have HSy0 := Lib.hid ho; clear ho); obtain ⟨Ay00, cy00, rfl, gy00⟩ := shape_Cyclic hR; (clear gy00); (try clear hR); (have hbp : Below v1.heap.size v1 wy0 := below_trans ((Below.refl _ _).drew) hb); (have HBwy0 := Lib.hid (below_trans HBv1.out hbp)); (have HX0z0_ := Lib.hid (HX0z0.out.on hbp); clear HX0z0; have HX0z0 := HX0z0_; clear HX0z0_); (have HX1z0_ := Lib.hid (HX1z0.out.on hbp); clear HX1z0; have HX1z0 := HX1z0_; clear HX1z0_); (have HXx0_ := Lib.hid (HXx0.out.on hbp); clear HXx0; have HXx0 := HXx0_; clear HXx0_); (have HXx1_ := Lib.hid (HXx1.out.on hbp); clear HXx1; have HXx1 := HXx1_; clear HXx1_); (have HSx0_ := Lib.hid (eCyclic.oon HSx0.out hbp); clear HSx0; have HSx0 := HSx0_; clear HSx0_); (have HSx1_ := Lib.hid (eTurn.oon HSx1.out hbp); clear HSx1; have HSx1 := HSx1_; clear HSx1_); (clear hbp); (clear hb); (clear fa0_0 fa1_0 fa1_1 fx0_0 fx1_0 fx1_1); (have fa0_0 : wy0.cell? ⟨w.heap.size, 0, none⟩ = some (.slice Aa00 a0.length ca00) := HX0z0.out.cell 0); (have fa1_0 : wy0.cell? ⟨w.heap.size + 1, 0, none⟩ = some (.int .i64 a1.1) := HX1z0.out.cell 0); (have fa1_1 : wy0.cell? ⟨w.heap.size + 1, 1, none⟩ = some (.slice Aa11 a1.2.length ca11) := HX1z0.out.cell 1); (have fx0_0 : wy0.cell? ⟨wx0.heap.size, 0, none⟩ = some (.slice Ax00 a0.length cx00) := HXx0.out.cell 0); (have fx1_0 : wy0.cell? ⟨wx1.heap.size, 0, none⟩ = some (.int .i64 a1.1) := HXx1.out.cell 0); (have fx1_1 : wy0.cell? ⟨wx1.heap.size, 1, none⟩ = some (.slice Ax11 a1.2.length cx11) := HXx1.out.cell 1))
      | (go_at_call 36; refine (eq_Cyclic_c _ _ a0 a0 _ (by exact eCyclic.old HSx0.out) (by exact eCyclic.old HSy0.out)).mono ?_; rintro e u0 ⟨rfl, hb⟩; rw [eq_Cyclic_refl]; (have hbp : Below wy0.heap.size wy0 u0 := hb); (have HBu0 := Lib.hid (below_trans HBwy0.out hbp)); (have HX0z0_ := Lib.hid (HX0z0.out.on hbp); clear HX0z0; have HX0z0 := HX0z0_; clear HX0z0_); (have HX1z0_ := Lib.hid (HX1z0.out.on hbp); clear HX1z0; have HX1z0 := HX1z0_; clear HX1z0_); (have HXx0_ := Lib.hid (HXx0.out.on hbp); clear HXx0; have HXx0 := HXx0_; clear HXx0_); (have HXx1_ := Lib.hid (HXx1.out.on hbp); clear HXx1; have HXx1 := HXx1_; clear HXx1_); (have HSx1_ := Lib.hid (eTurn.oon HSx1.out hbp); clear HSx1; have HSx1 := HSx1_; clear HSx1_); (clear hbp); (clear hb); (clear fa0_0 fa1_0 fa1_1 fx0_0 fx1_0 fx1_1); (have fa0_0 : u0.cell? ⟨w.heap.size, 0, none⟩ = some (.slice Aa00 a0.length ca00) := HX0z0.out.cell 0); (have fa1_0 : u0.cell? ⟨w.heap.size + 1, 0, none⟩ = some (.int .i64 a1.1) := HX1z0.out.cell 0); (have fa1_1 : u0.cell? ⟨w.heap.size + 1, 1, none⟩ = some (.slice Aa11 a1.2.length ca11) := HX1z0.out.cell 1); (have fx0_0 : u0.cell? ⟨wx0.heap.size, 0, none⟩ = some (.slice Ax00 a0.length cx00) := HXx0.out.cell 0); (have fx1_0 : u0.cell? ⟨wx1.heap.size, 0, none⟩ = some (.int .i64 a1.1) := HXx1.out.cell 0); (have fx1_1 : u0.cell? ⟨wx1.heap.size, 1, none⟩ = some (.slice Ax11 a1.2.length cx11) := HXx1.out.cell 1)))
  go_wp2_with fail
  go_region_held3 (fun w' => w'.cell? ⟨w.heap.size + 1, 0, none⟩ = some (.int .i64 a1.1) ∧ w'.cell? ⟨w.heap.size + 1, 1, none⟩ = some (.slice Aa11 a1.2.length ca11) ∧ w'.cell? ⟨wx1.heap.size, 0, none⟩ = some (.int .i64 a1.1) ∧ w'.cell? ⟨wx1.heap.size, 1, none⟩ = some (.slice Ax11 a1.2.length cx11)) (first | (simp [go_sem, *]; done) | (refine ⟨?_, ?_, ?_, ?_⟩ <;> assumption))
    (first
      | (go_at_call 53; refine (to_Turn _ a1 _ (by exact eTurn.on H1.out (HBu0.out.drew)) HC1.out).mono ?_; rintro e wy1 ⟨esy1, rfl, ho, hb⟩; (have hR := eTurn.read ho); (have HSy1 := Lib.hid ho; clear ho); obtain ⟨Ay11, cy11, rfl, gy10, gy11⟩ := shape_Turn hR; (clear gy10 gy11); (try clear hR); (have hbp : Below u0.heap.size u0 wy1 := below_trans ((Below.refl _ _).drew) hb); (have HBwy1 := Lib.hid (below_trans HBu0.out hbp)); (have HX0z0_ := Lib.hid (HX0z0.out.on hbp); clear HX0z0; have HX0z0 := HX0z0_; clear HX0z0_); (have HX1z0_ := Lib.hid (HX1z0.out.on hbp); clear HX1z0; have HX1z0 := HX1z0_; clear HX1z0_); (have HXx0_ := Lib.hid (HXx0.out.on hbp); clear HXx0; have HXx0 := HXx0_; clear HXx0_); (have HXx1_ := Lib.hid (HXx1.out.on hbp); clear HXx1; have HXx1 := HXx1_; clear HXx1_); (have HSx1_ := Lib.hid (eTurn.oon HSx1.out hbp); clear HSx1; have HSx1 := HSx1_; clear HSx1_); (clear hbp); (clear hb); (clear fa0_0 fa1_0 fa1_1 fx0_0 fx1_0 fx1_1); (have fa0_0 : wy1.cell? ⟨w.heap.size, 0, none⟩ = some (.slice Aa00 a0.length ca00) := HX0z0.out.cell 0); (have fa1_0 : wy1.cell? ⟨w.heap.size + 1, 0, none⟩ = some (.int .i64 a1.1) := HX1z0.out.cell 0); (have fa1_1 : wy1.cell? ⟨w.heap.size + 1, 1, none⟩ = some (.slice Aa11 a1.2.length ca11) := HX1z0.out.cell 1); (have fx0_0 : wy1.cell? ⟨wx0.heap.size, 0, none⟩ = some (.slice Ax00 a0.length cx00) := HXx0.out.cell 0); (have fx1_0 : wy1.cell? ⟨wx1.heap.size, 0, none⟩ = some (.int .i64 a1.1) := HXx1.out.cell 0); (have fx1_1 : wy1.cell? ⟨wx1.heap.size, 1, none⟩ = some (.slice Ax11 a1.2.length cx11) := HXx1.out.cell 1))
      | (go_at_call 55; refine (eq_Turn_c _ _ a1 a1 _ (by exact eTurn.old HSx1.out) (by exact eTurn.old HSy1.out)).mono ?_; rintro e u1 ⟨rfl, hb⟩; rw [eq_Turn_refl]; (have hbp : Below wy1.heap.size wy1 u1 := hb); (have HBu1 := Lib.hid (below_trans HBwy1.out hbp)); (have HX0z0_ := Lib.hid (HX0z0.out.on hbp); clear HX0z0; have HX0z0 := HX0z0_; clear HX0z0_); (have HX1z0_ := Lib.hid (HX1z0.out.on hbp); clear HX1z0; have HX1z0 := HX1z0_; clear HX1z0_); (have HXx0_ := Lib.hid (HXx0.out.on hbp); clear HXx0; have HXx0 := HXx0_; clear HXx0_); (have HXx1_ := Lib.hid (HXx1.out.on hbp); clear HXx1; have HXx1 := HXx1_; clear HXx1_); (clear hbp); (clear hb); (clear fa0_0 fa1_0 fa1_1 fx0_0 fx1_0 fx1_1); (have fa0_0 : u1.cell? ⟨w.heap.size, 0, none⟩ = some (.slice Aa00 a0.length ca00) := HX0z0.out.cell 0); (have fa1_0 : u1.cell? ⟨w.heap.size + 1, 0, none⟩ = some (.int .i64 a1.1) := HX1z0.out.cell 0); (have fa1_1 : u1.cell? ⟨w.heap.size + 1, 1, none⟩ = some (.slice Aa11 a1.2.length ca11) := HX1z0.out.cell 1); (have fx0_0 : u1.cell? ⟨wx0.heap.size, 0, none⟩ = some (.slice Ax00 a0.length cx00) := HXx0.out.cell 0); (have fx1_0 : u1.cell? ⟨wx1.heap.size, 0, none⟩ = some (.int .i64 a1.1) := HXx1.out.cell 0); (have fx1_1 : u1.cell? ⟨wx1.heap.size, 1, none⟩ = some (.slice Ax11 a1.2.length cx11) := HXx1.out.cell 1)))
  go_wp2
  go_ret
  exact ⟨rfl, HBu1.out⟩

end Go.Proofs.Ytlnakbbngidogaa
