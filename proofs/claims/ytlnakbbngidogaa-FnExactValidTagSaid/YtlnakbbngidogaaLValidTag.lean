/- What the proof of FnExactValidTag needs: contracts of the functions that it reaches, each once. -/
import Derived.Test.YtlnakbbngidogaaProg
import Derived.Test.YtlnakbbngidogaaQMem
import Derived.WalkKit
import Derived.WalkSpells
import Derived.Below
import Derived.LoopTactic
import Derived.Outline
import Derived.Deep.QuietTactic
import Derived.BigQuiet
import Derived.Deep.LoopGhost
import Derived.Handy
import Derived.Lib.Hide
import Derived.Shelf.Abstract
import Derived.StillTailTactics
import Derived.OwnWalk
import Derived.Maps.AppendAt
import Derived.RegionTactic
import Derived.Deep.RegionHeld3
namespace Go.Proofs.Ytlnakbbngidogaa
open Go.RowKit

abbrev tTag : Type := Int × (List (List Int)) × (List Int)

abbrev eTag : Enc tTag := (ePr eInt (ePr (eSl (eSl eInt)) (eSl eInt)))

theorem shape_Tag {w : World} {S : Nat → Prop} {es : List Value} {x : tTag} (h : eTag.R w S es x) : ∃ A1 c1 A2 c2, es = [.int .i64 x.1, .slice A1 x.2.1.length c1, .slice A2 x.2.2.length c2] ∧ I64 x.1 ∧ Sl (eSl eInt) w S A1 c1 x.2.1 ∧ Sl eInt w S A2 c2 x.2.2 := by
  obtain ⟨_, _, rfl, ⟨rfl, h0⟩, ⟨_, _, rfl, ⟨A1, c1, rfl, h1⟩, ⟨A2, c2, rfl, h2⟩⟩⟩ := h
  exact ⟨A1, c1, A2, c2, rfl, h0, h1, h2⟩

theorem any_hit {α : Type} {p : α → Bool} {xs : List α} {k : Nat} (hk : k < xs.length) (h : p xs[k] = true) : xs.any p = true :=
  List.any_eq_true.2 ⟨_, List.getElem_mem hk, h⟩

theorem any_step {α : Type} {p : α → Bool} {xs : List α} {k : Nat} (hk : k < xs.length) (h0 : (xs.take k).any p = false) (h : p xs[k] = false) : (xs.take (k + 1)).any p = false := by
  rw [List.take_succ_eq_append_getElem hk, List.any_append, h0]; simp [h]

/-- Equality of two lists, element by element. -/
def eqL {α : Type} (p : α → α → Bool) : List α → List α → Bool
  | [], [] => true
  | x :: xs, y :: ys => p x y && eqL p xs ys
  | _, _ => false

theorem eqL_refl {α : Type} {p : α → α → Bool} (hp : ∀ x, p x x = true) : ∀ xs : List α, eqL p xs xs = true
  | [] => rfl
  | x :: xs => by rw [eqL, hp, eqL_refl hp xs]; rfl

theorem eqL_len {α : Type} {p : α → α → Bool} : ∀ (xs ys : List α), xs.length ≠ ys.length → eqL p xs ys = false
  | [], [], h => absurd rfl h
  | [], _ :: _, _ => rfl
  | _ :: _, [], _ => rfl
  | x :: xs, y :: ys, h => by rw [eqL, eqL_len xs ys (by simpa using h)]; simp

theorem eqL_get {α : Type} {p : α → α → Bool} : ∀ (xs ys : List α) (k : Nat) (h1 : k < xs.length) (h2 : k < ys.length), p xs[k] ys[k] = false → eqL p xs ys = false
  | x :: xs, y :: ys, 0, _, _, h => by rw [eqL]; simp at h; rw [h]; rfl
  | x :: xs, y :: ys, k + 1, h1, h2, h => by rw [eqL, eqL_get xs ys k (by simpa using h1) (by simpa using h2) (by simpa using h)]; simp

theorem eqL_all {α : Type} {p : α → α → Bool} : ∀ (xs ys : List α), xs.length = ys.length → (∀ k (h1 : k < xs.length) (h2 : k < ys.length), p xs[k] ys[k] = true) → eqL p xs ys = true
  | [], [], _, _ => rfl
  | x :: xs, y :: ys, hl, h => by
    have e : p x y = true := h 0 (Nat.zero_lt_succ _) (Nat.zero_lt_succ _)
    have e' : eqL p xs ys = true := eqL_all xs ys (by simpa using hl) fun k h1 h2 => h (k + 1) (Nat.succ_lt_succ h1) (Nat.succ_lt_succ h2)
    rw [eqL, e, e']; rfl
  | [], _ :: _, hl, _ => by simp at hl
  | _ :: _, [], hl, _ => by simp at hl

theorem ret_bool {a b : Bool} (h : a = b) : Ending.returned (.bool a) = .returned (.bool b) := by rw [h]

def withinB (n lo hi : Int) : Bool := decide (lo ≤ n) && decide (n ≤ hi)

theorem withinB_true {n lo hi : Int} : withinB n lo hi = true ↔ lo ≤ n ∧ n ≤ hi := by
  unfold withinB; simp

theorem impl_within (n lo hi : Int) (w : World) :
    Calls Try.prog 72 #[.int .i64 n, .int .i64 lo, .int .i64 hi] w fun e w' => e = .returned (.bool (withinB n lo hi)) ∧ w = w' := by
  unfold withinB
  by_cases h1 : lo ≤ n
  · go_enter Try.func72, Try.ntmps72
    go_wp2
    go_ret
    exact ⟨by first | (simp; done) | simp [h1], rfl⟩
  · have h2 : decide (lo ≤ n) = false := by simpa using h1
    go_enter Try.func72, Try.ntmps72
    go_wp2
    go_ret
    exact ⟨by first | (simp; done) | simp [h2], rfl⟩

theorem spec_l00In (n lo hi : Int) (w : World) :
    Calls Try.prog 119 #[.int .i64 n, .int .i64 lo, .int .i64 hi] w fun e w' => e = .returned (.bool (withinB n lo hi)) ∧ w = w' := by
  unfold withinB
  by_cases h1 : lo ≤ n
  · go_enter Try.func119, Try.ntmps119
    go_wp2
    go_ret
    exact ⟨by first | (simp; done) | simp [h1], rfl⟩
  · have h2 : decide (lo ≤ n) = false := by simpa using h1
    go_enter Try.func119, Try.ntmps119
    go_wp2
    go_ret
    exact ⟨by first | (simp; done) | simp [h2], rfl⟩

theorem impl_size_Int64S (a : Option Addr) (n c : Nat) (w : World) :
    Calls Try.prog 96 #[.slice a n c] w fun e w' => e = .returned (.int .i64 n) ∧ w = w' := by
  go_enter Try.func96, Try.ntmps96
  go_wp2
  go_ret
  exact ⟨rfl, rfl⟩

set_option maxHeartbeats 400000 in
theorem IndexFunc_Int64S (p : (List Int) → Bool) (g : Nat) (lb : Array Value) (A : Option Addr) (c : Nat) (xs : List (List Int)) (w : World) (h : Sl (eSl eInt) w (Old w) A c xs)
    (eg : ∀ args w, (callFunc g args).run Try.prog w = .ok (.enter g args) w) (hp : ∀ W x es, x ∈ xs → Below w.heap.size w W → (eSl eInt).R W (Old W) es x → Calls Try.prog g (#[es[0]!] ++ lb) W fun e w' => e = .returned (.bool (p x)) ∧ Below W.heap.size W w') :
    Calls Try.prog 155 #[.slice A xs.length c, .func (.func g) #[] lb] w fun e w' => (∃ r : Int, e = .returned (.int .i64 r) ∧ decide (0 ≤ r) = xs.any p) ∧ Below w.heap.size w w' := by
  have hlen := h.len
  have H := Lib.hid h; clear h
  have HP := Lib.hid hp; clear hp
  go_enter Try.func155, Try.ntmps155
  go_wp2
  go_loopg [5, 8] xs.length (fun gg _ s8 wr => ∃ k : Nat, k ≤ xs.length ∧ xs.length - k ≤ gg ∧ s8 = .int .i64 k ∧ Hid (Below w.heap.size w wr) ∧ Hid ((xs.take k).any p = false))
  case atStart => exact ⟨0, Nat.zero_le _, by omega, rfl, Below.refl _ w, rfl⟩
  case round =>
    obtain ⟨k, hk, hg, rfl, BW, HN⟩ := hrel
    by_cases hlt : k < xs.length
    · have hltz : (k : Int) < (xs.length : Int) := by omega
      obtain ⟨b, off, es, rfl, hb, hR, hc⟩ := H.out.at1 rfl hlt
      have hcall := HP.out wr xs[k] _ (List.getElem_mem hlt) BW.out ((eSl eInt).on hR BW.out)
      obtain ⟨Aq, cq, rfl, gq⟩ := hR
      have d0 : wr.cell? ⟨b, off + k, none⟩ = some (.slice Aq xs[k].length cq) := (below_olds BW.out _ hb).trans (hc _ rfl)
      clear hc gq
      try clear hR
      have HQ1 : Hid (p xs[k] = true → xs.any p = true) := any_hit hlt
      have HQ0 : Hid (p xs[k] = false → (xs.take (k + 1)).any p = false) := any_step hlt HN.out
      generalize xs[k] = y at d0 hcall HQ1 HQ0
      cases hq : p y with
      | true =>
        rw [hq] at hcall
        have HQ := Lib.hid (HQ1.out hq); clear hq HQ1 HQ0
        go_wp2_with (go_at_fn g; refine hcall.mono ?_; rintro e w' ⟨rfl, hb'⟩)
        go_ret
        exact ⟨⟨k, rfl, by rw [HQ.out]; simp⟩, below_trans BW.out hb'⟩
      | false =>
        rw [hq] at hcall
        have HQ := Lib.hid (HQ0.out hq); clear hq HQ1 HQ0
        go_wp2_with (go_at_fn g; refine hcall.mono ?_; rintro e w' ⟨rfl, hb'⟩)
        go_roundg (xs.length - (k + 1))
        case measure => omega
        case rel => exact ⟨k + 1, by omega, by omega, by go_num, below_trans BW.out hb', HQ.out⟩
    · have hltz : ¬ (k : Int) < (xs.length : Int) := by omega
      obtain rfl : k = xs.length := by omega
      go_wp2
      go_ret
      refine ⟨⟨-1, rfl, ?_⟩, BW.out⟩
      have := HN.out
      rw [List.take_length] at this
      rw [this]; rfl

theorem ContainsFunc_Int64S (p : (List Int) → Bool) (g : Nat) (lb : Array Value) (A : Option Addr) (c : Nat) (xs : List (List Int)) (w : World) (h : Sl (eSl eInt) w (Old w) A c xs)
    (eg : ∀ args w, (callFunc g args).run Try.prog w = .ok (.enter g args) w) (hp : ∀ W x es, x ∈ xs → Below w.heap.size w W → (eSl eInt).R W (Old W) es x → Calls Try.prog g (#[es[0]!] ++ lb) W fun e w' => e = .returned (.bool (p x)) ∧ Below W.heap.size W w') :
    Calls Try.prog 139 #[.slice A xs.length c, .func (.func g) #[] lb] w fun e w' => e = .returned (.bool (xs.any p)) ∧ Below w.heap.size w w' := by
  have hI := Lib.hid (IndexFunc_Int64S p g lb A c xs w h eg hp); clear h hp eg
  go_enter Try.func139, Try.ntmps139
  go_wp2_with (go_at_call 155; refine hI.out.mono ?_; rintro e w' ⟨⟨r, rfl, hr⟩, hb⟩; have HR := Lib.hid hr; clear hr)
  go_ret
  exact ⟨by rw [← HR.out]; rfl, hb⟩

def costL {α : Type} (f : α → Nat) (xs : List α) : Nat := xs.length + (xs.map f).sum

theorem costL_take {α : Type} (f : α → Nat) (xs : List α) (k : Nat) (h : k < xs.length) : ((xs.take (k + 1)).map f).sum = ((xs.take k).map f).sum + f xs[k] := by
  rw [List.take_succ_eq_append_getElem h, List.map_append, List.sum_append]; simp only [List.map_cons, List.map_nil, List.sum_cons, List.sum_nil, Nat.add_zero]

theorem cost_le {α : Type} (f : α → Nat) (xs : List α) (k : Nat) : ((xs.take k).map f).sum ≤ (xs.map f).sum := by
  have h : (xs.map f).sum = ((xs.take k).map f).sum + ((xs.drop k).map f).sum := by
    rw [← List.sum_append, ← List.map_append, List.take_append_drop]
  omega

/-- What the size functions of the laws answer. -/
def left (l : Int) (n : Nat) : Int := if l - n < 0 then -1 else l - n

theorem left_neg {l : Int} {n : Nat} (h : l - n < 0) : left l n = -1 := if_pos h

theorem left_pos {l : Int} {n : Nat} (h : ¬ l - n < 0) : left l n = l - n := if_neg h

def cost_L (xs : List Int) : Nat := xs.length

def cost_LL (xs : List (List Int)) : Nat := costL cost_L xs

def cost_Tag (x : tTag) : Nat := cost_LL x.2.1 + cost_L x.2.2

theorem sz_Int64S (A : Option Addr) (c : Nat) (xs : List Int) (l : Int) (w : World) (h : Sl eInt w (Old w) A c xs) (h0 : 0 ≤ l) (h1 : l ≤ 1048576) :
    Calls Try.prog 115 #[.slice A xs.length c, .int .i64 l] w fun e w' => e = .returned (.int .i64 (left l (cost_L xs))) ∧ Below w.heap.size w w' := by
  have hlen := h.len
  clear h
  unfold cost_L
  by_cases hl : l - xs.length < 0
  · rw [left_neg hl]
    go_enter Try.func115, Try.ntmps115
    go_wp2
    go_ret
    exact ⟨rfl, Below.refl _ _⟩
  · rw [left_pos hl]
    go_enter Try.func115, Try.ntmps115
    go_wp2
    go_ret
    exact ⟨rfl, Below.refl _ _⟩

set_option maxHeartbeats 1000000 in
theorem sz_Int64SS (A : Option Addr) (c : Nat) (xs : List (List Int)) (l : Int) (w : World) (h : Sl (eSl eInt) w (Old w) A c xs) (h0 : 0 ≤ l) (h1 : l ≤ 1048576) :
    Calls Try.prog 93 #[.slice A xs.length c, .int .i64 l] w fun e w' => e = .returned (.int .i64 (left l (cost_LL xs))) ∧ Below w.heap.size w w' := by
  have hlen := h.len
  have H := Lib.hid h; clear h
  have HC : Hid (cost_LL xs = xs.length + (xs.map cost_L).sum) := rfl
  by_cases hl : l - xs.length < 0
  · rw [left_neg (by rw [HC.out]; omega)]
    go_enter Try.func93, Try.ntmps93
    go_wp2
    go_ret
    exact ⟨rfl, Below.refl _ _⟩
  · go_enter Try.func93, Try.ntmps93
    go_wp2
    go_loopw [1, 5] (fun s1 s5 wr => ∃ (k : Nat) (m : Int), k ≤ xs.length ∧ s5 = .int .i64 k ∧ s1 = .int .i64 m ∧ 0 ≤ m ∧ m ≤ 1048576 ∧ Hid (m = l - xs.length - ((xs.take k).map cost_L).sum) ∧ Hid (Below w.heap.size w wr)) (fun _ s5 _ => xs.length - (intOf s5).toNat)
    case atStart => exact ⟨0, _, Nat.zero_le _, rfl, rfl, by omega, by omega, by show _ = _; simp, Below.refl _ w⟩
    case round =>
      obtain ⟨k, m, hk, rfl, rfl, hm0, hm1, HM, BW⟩ := hrel
      by_cases hlt : k < xs.length
      · have hltz : (k : Int) < (xs.length : Int) := by omega
        obtain ⟨b, off, es, rfl, hb, hR, hc⟩ := H.out.at1 rfl hlt
        have HS := Lib.hid (costL_take cost_L xs k hlt)
        have HLE := Lib.hid (cost_le cost_L xs (k + 1))
        obtain ⟨Aq, cq, rfl, gq⟩ := hR
        have d0 : wr.cell? ⟨b, off + k, none⟩ = some (.slice Aq xs[k].length cq) := (below_olds BW.out _ hb).trans (hc _ rfl)
        have HC2 := Lib.hid fun l h0 h1 => sz_Int64S _ _ xs[k] l wr (gq.on BW.out) h0 h1
        clear hc gq
        try clear hR
        generalize xs[k] = y at d0 HC2 HS
        by_cases hz : m - cost_L y < 0
        · go_wp2_with fail
          refine (HC2.out m hm0 hm1).mono ?_
          rintro e w2 ⟨rfl, hb2⟩
          rw [left_neg (by omega)]
          go_wp2
          go_ret
          exact ⟨by rw [left_neg (by rw [HC.out]; have := HM.out; have := HS.out; have := HLE.out; omega)]; rfl, below_trans BW.out hb2⟩
        · have hz1 : 0 ≤ m - cost_L y := by omega
          go_wp2_with fail
          refine (HC2.out m hm0 hm1).mono ?_
          rintro e w2 ⟨rfl, hb2⟩
          rw [left_pos (by omega)]
          go_wp2
          go_roundw
          case rel => exact ⟨k + 1, m - cost_L y, by omega, by go_num, rfl, by omega, by omega, by show _ = _; have := HM.out; have := HS.out; omega, below_trans BW.out hb2⟩
          case measure => simp [intOf]; omega
      · have hltz : ¬ (k : Int) < (xs.length : Int) := by omega
        obtain rfl : k = xs.length := by omega
        go_wp2
        go_ret
        have h2 := HM.out
        rw [List.take_length] at h2
        exact ⟨by rw [left_pos (by rw [HC.out]; omega), HC.out, show l - ((xs.length + (xs.map cost_L).sum : Nat) : Int) = m from by omega]; rfl, BW.out⟩

set_option maxHeartbeats 1000000 in
theorem sz_Tag (es : List Value) (x : tTag) (l : Int) (w : World) (h : eTag.R w (Old w) es x) (h0 : 0 ≤ l) (h1 : l ≤ 1048576) :
    Calls Try.prog 66 #[.agg es.toArray, .int .i64 l] w fun e w' => e = .returned (.int .i64 (left l (cost_Tag x))) ∧ Below w.heap.size w w' := by
  obtain ⟨A1, c1, A2, c2, rfl, g0, g1, g2⟩ := shape_Tag h
  have HT : Hid (cost_Tag x = cost_LL x.2.1 + cost_L x.2.2) := rfl
  have HB0 := Lib.hid ((Below.refl w.heap.size w).alloc (Nat.le_refl _) (.cells #[.int .i64 x.1, .slice A1 x.2.1.length c1, .slice A2 x.2.2.length c2] 95))
  have K1 := Lib.hid (g1.on HB0.out); clear g1
  have K2 := Lib.hid (g2.on HB0.out); clear g2
  clear g0
  by_cases t0 : l - (cost_LL x.2.1 : Nat) < 0
  · rw [left_neg (by rw [HT.out]; omega)]
    go_enter Try.func66, Try.ntmps66
    go_wp2_with fail
    refine (sz_Int64SS _ _ x.2.1 _ _ K1.out (by omega) (by omega)).mono ?_
    rintro e w1 ⟨rfl, hb⟩
    rw [left_neg (by omega)]
    have HB1 := Lib.hid hb
    clear hb
    obtain ⟨hc, hf⟩ := bcell HB1.out
    go_wp2
    go_ret
    exact ⟨rfl, HB0.out.trans (HB1.out.mono HB0.out.size)⟩
  by_cases t1 : l - (cost_LL x.2.1 : Nat) - (cost_L x.2.2 : Nat) < 0
  · rw [left_neg (by rw [HT.out]; omega)]
    go_enter Try.func66, Try.ntmps66
    go_wp2_with fail
    refine (sz_Int64SS _ _ x.2.1 _ _ K1.out (by omega) (by omega)).mono ?_
    rintro e w1 ⟨rfl, hb⟩
    rw [left_pos (by omega)]
    have HB1 := Lib.hid hb
    clear hb
    obtain ⟨hc, hf⟩ := bcell HB1.out
    go_wp2_with fail
    refine (sz_Int64S _ _ x.2.2 _ _ (K2.out.on HB1.out) (by omega) (by omega)).mono ?_
    rintro e w2 ⟨rfl, hb⟩
    rw [left_neg (by omega)]
    have HB2 := Lib.hid (below_trans HB1.out hb)
    clear hb
    obtain ⟨hc, hf⟩ := bcell HB2.out
    go_wp2
    go_ret
    exact ⟨rfl, HB0.out.trans (HB2.out.mono HB0.out.size)⟩
  rw [left_pos (by rw [HT.out]; omega), show l - ((cost_Tag x : Nat) : Int) = l - (cost_LL x.2.1 : Nat) - (cost_L x.2.2 : Nat) from by rw [HT.out]; first | done | omega]
  go_enter Try.func66, Try.ntmps66
  go_wp2_with fail
  refine (sz_Int64SS _ _ x.2.1 _ _ K1.out (by omega) (by omega)).mono ?_
  rintro e w1 ⟨rfl, hb⟩
  rw [left_pos (by omega)]
  have HB1 := Lib.hid hb
  clear hb
  obtain ⟨hc, hf⟩ := bcell HB1.out
  go_wp2_with fail
  refine (sz_Int64S _ _ x.2.2 _ _ (K2.out.on HB1.out) (by omega) (by omega)).mono ?_
  rintro e w2 ⟨rfl, hb⟩
  rw [left_pos (by omega)]
  have HB2 := Lib.hid (below_trans HB1.out hb)
  clear hb
  obtain ⟨hc, hf⟩ := bcell HB2.out
  go_wp2
  go_ret
  exact ⟨rfl, HB0.out.trans (HB2.out.mono HB0.out.size)⟩

def eq_i (x y : Int) : Bool := x == y

def eq_L (x y : List Int) : Bool := eqL eq_i x y

def eq_LL (x y : List (List Int)) : Bool := eqL eq_L x y

theorem eq_i_refl (x : Int) : eq_i x x = true := by simp [eq_i]

theorem eq_L_refl (x : List Int) : eq_L x x = true := eqL_refl eq_i_refl x

theorem eq_LL_refl (x : List (List Int)) : eq_LL x x = true := eqL_refl eq_L_refl x

def eq_Tag (x y : tTag) : Bool := eq_i x.1 y.1 && eq_LL x.2.1 y.2.1 && eq_L x.2.2 y.2.2

theorem eq_Tag_refl (x : tTag) : eq_Tag x x = true := by unfold eq_Tag; simp [eq_LL_refl, eq_L_refl, eq_i_refl]

set_option maxRecDepth 100000 in
set_option maxHeartbeats 1000000 in
theorem eq_L_c (A A' : Option Addr) (c c' : Nat) (xs ys : List Int) (w : World) (h : Sl eInt w (Old w) A c xs) (h' : Sl eInt w (Old w) A' c' ys) :
    Calls Try.prog 79 #[.slice A xs.length c, .slice A' ys.length c'] w fun e w' => e = .returned (.bool (eq_L xs ys)) ∧ Below w.heap.size w w' := by
  have hlen := h.len
  have hlen' := h'.len
  unfold eq_L
  by_cases hne : xs.length = ys.length
  · have hne' : ((xs.length : Int) != (ys.length : Int)) = false := by simp [hne]
    have HE := Lib.hid hne; clear hne
    have H := Lib.hid h; clear h
    have H' := Lib.hid h'; clear h'
    go_enter Try.func79, Try.ntmps79
    go_wp2
    clear hne'
    go_loopw [5] (fun s5 wr => ∃ k : Nat, k ≤ xs.length ∧ s5 = .int .i64 k ∧ Hid (Below w.heap.size w wr) ∧ Hid (∀ j (h1 : j < xs.length) (h2 : j < ys.length), j < k → eq_i xs[j] ys[j] = true)) (fun s5 _ => xs.length - (intOf s5).toNat)
    case atStart => exact ⟨0, Nat.zero_le _, rfl, Below.refl _ _, fun j _ _ h => absurd h (Nat.not_lt_zero _)⟩
    case round =>
      obtain ⟨k, hk, rfl, HL, HN⟩ := hrel
      by_cases hlt : k < xs.length
      · have hltz : (k : Int) < (xs.length : Int) := by omega
        have hlt' : k < ys.length := by have := HE.out; omega
        have hltz' : (k : Int) < (ys.length : Int) := by omega
        obtain ⟨bp, offp, esp, rfl, hbp, hR, hc⟩ := H.out.at1 rfl hlt
        obtain ⟨rfl, gp⟩ := hR
        have dp0 : wr.cell? ⟨bp, offp + k, none⟩ = some (.int .i64 xs[k]) := (below_olds HL.out _ hbp).trans (hc _ rfl)
        clear hc gp
        try clear hR
        obtain ⟨bq, offq, esq, rfl, hbq, hR, hc⟩ := H'.out.at1 rfl hlt'
        obtain ⟨rfl, gq⟩ := hR
        have dq0 : wr.cell? ⟨bq, offq + k, none⟩ = some (.int .i64 ys[k]) := (below_olds HL.out _ hbq).trans (hc _ rfl)
        clear hc gq
        try clear hR
        have HQ0 : Hid (eq_i xs[k] ys[k] = false → eqL eq_i xs ys = false) := eqL_get xs ys k hlt hlt'
        have HQ1 : Hid (eq_i xs[k] ys[k] = true → ∀ j (h1 : j < xs.length) (h2 : j < ys.length), j < k + 1 → eq_i xs[j] ys[j] = true) := fun e j h1 h2 hj => by
          by_cases ej : j = k
          · subst ej; exact e
          · exact HN.out j h1 h2 (by omega)
        generalize xs[k] = x at dp0 HQ0 HQ1
        generalize ys[k] = y at dq0 HQ0 HQ1
        cases hq : eq_i x y
        · have hq' : (x != y) = true := by simp [eq_i] at hq; simp [hq]
          go_wp2_with fail
          go_quiet (fail)
          go_wp2
          go_ret
          exact ⟨by rw [HQ0.out hq]; rfl, below_drewN HL.out _⟩
        · have hq' : (x != y) = false := by simp [eq_i] at hq; simp [hq]
          go_wp2_with fail
          go_quiet (fail)
          go_wp2
          go_roundw
          case rel => exact ⟨k + 1, by omega, by go_num, below_drewN HL.out _, HQ1.out hq⟩
          case measure => simp [intOf]; omega
      · have hltz : ¬ (k : Int) < (xs.length : Int) := by omega
        obtain rfl : k = xs.length := by omega
        go_wp2
        go_ret
        exact ⟨by rw [eqL_all xs ys HE.out fun j h1 h2 => HN.out j h1 h2 h1]; rfl, HL.out⟩
  · have hne' : ((xs.length : Int) != (ys.length : Int)) = true := by simp; omega
    rw [eqL_len xs ys hne]
    clear h h' hne
    go_enter Try.func79, Try.ntmps79
    go_wp2
    go_ret
    exact ⟨rfl, Below.refl _ _⟩

set_option maxRecDepth 100000 in
set_option maxHeartbeats 1000000 in
theorem eq_LL_c (A A' : Option Addr) (c c' : Nat) (xs ys : List (List Int)) (w : World) (h : Sl (eSl eInt) w (Old w) A c xs) (h' : Sl (eSl eInt) w (Old w) A' c' ys) :
    Calls Try.prog 78 #[.slice A xs.length c, .slice A' ys.length c'] w fun e w' => e = .returned (.bool (eq_LL xs ys)) ∧ Below w.heap.size w w' := by
  have hlen := h.len
  have hlen' := h'.len
  unfold eq_LL
  by_cases hne : xs.length = ys.length
  · have hne' : ((xs.length : Int) != (ys.length : Int)) = false := by simp [hne]
    have HE := Lib.hid hne; clear hne
    have H := Lib.hid h; clear h
    have H' := Lib.hid h'; clear h'
    go_enter Try.func78, Try.ntmps78
    go_wp2
    clear hne'
    go_loopw [5] (fun s5 wr => ∃ k : Nat, k ≤ xs.length ∧ s5 = .int .i64 k ∧ Hid (Below w.heap.size w wr) ∧ Hid (∀ j (h1 : j < xs.length) (h2 : j < ys.length), j < k → eq_L xs[j] ys[j] = true)) (fun s5 _ => xs.length - (intOf s5).toNat)
    case atStart => exact ⟨0, Nat.zero_le _, rfl, Below.refl _ _, fun j _ _ h => absurd h (Nat.not_lt_zero _)⟩
    case round =>
      obtain ⟨k, hk, rfl, HL, HN⟩ := hrel
      by_cases hlt : k < xs.length
      · have hltz : (k : Int) < (xs.length : Int) := by omega
        have hlt' : k < ys.length := by have := HE.out; omega
        have hltz' : (k : Int) < (ys.length : Int) := by omega
        obtain ⟨bp, offp, esp, rfl, hbp, hR, hc⟩ := H.out.at1 rfl hlt
        obtain ⟨Ap, cp, rfl, gp⟩ := hR
        have dp0 : wr.cell? ⟨bp, offp + k, none⟩ = some (.slice Ap xs[k].length cp) := (below_olds HL.out _ hbp).trans (hc _ rfl)
        have HRp := Lib.hid (gp.on HL.out)
        clear hc gp
        try clear hR
        obtain ⟨bq, offq, esq, rfl, hbq, hR, hc⟩ := H'.out.at1 rfl hlt'
        obtain ⟨Aq, cq, rfl, gq⟩ := hR
        have dq0 : wr.cell? ⟨bq, offq + k, none⟩ = some (.slice Aq ys[k].length cq) := (below_olds HL.out _ hbq).trans (hc _ rfl)
        have HRq := Lib.hid (gq.on HL.out)
        clear hc gq
        try clear hR
        have HQ0 : Hid (eq_L xs[k] ys[k] = false → eqL eq_L xs ys = false) := eqL_get xs ys k hlt hlt'
        have HQ1 : Hid (eq_L xs[k] ys[k] = true → ∀ j (h1 : j < xs.length) (h2 : j < ys.length), j < k + 1 → eq_L xs[j] ys[j] = true) := fun e j h1 h2 hj => by
          by_cases ej : j = k
          · subst ej; exact e
          · exact HN.out j h1 h2 (by omega)
        generalize xs[k] = x at dp0 HRp HQ0 HQ1
        generalize ys[k] = y at dq0 HRq HQ0 HQ1
        go_wp2_with fail
        go_still_tail 8, (by kernel_rfl)
        cases hq : eq_L x y
        · go_wp2_with fail
          refine (eq_L_c _ _ _ _ x y _ (HRp.out.on (Below.refl _ _).drew) (HRq.out.on (Below.refl _ _).drew)).mono ?_
          rintro e w2 ⟨rfl, hb2⟩
          rw [hq]
          go_wp2
          go_ret
          exact ⟨by rw [HQ0.out hq]; rfl, HL.out.drew.trans (hb2.mono HL.out.size)⟩
        · go_wp2_with fail
          refine (eq_L_c _ _ _ _ x y _ (HRp.out.on (Below.refl _ _).drew) (HRq.out.on (Below.refl _ _).drew)).mono ?_
          rintro e w2 ⟨rfl, hb2⟩
          rw [hq]
          go_wp2
          go_roundw
          case rel => exact ⟨k + 1, by omega, by go_num, HL.out.drew.trans (hb2.mono HL.out.size), HQ1.out hq⟩
          case measure => simp [intOf]; omega
      · have hltz : ¬ (k : Int) < (xs.length : Int) := by omega
        obtain rfl : k = xs.length := by omega
        go_wp2
        go_ret
        exact ⟨by rw [eqL_all xs ys HE.out fun j h1 h2 => HN.out j h1 h2 h1]; rfl, HL.out⟩
  · have hne' : ((xs.length : Int) != (ys.length : Int)) = true := by simp; omega
    rw [eqL_len xs ys hne]
    clear h h' hne
    go_enter Try.func78, Try.ntmps78
    go_wp2
    go_ret
    exact ⟨rfl, Below.refl _ _⟩

set_option maxHeartbeats 1000000 in
theorem eq_Tag_c (es es' : List Value) (x y : tTag) (w : World) (h : eTag.R w (Old w) es x) (h' : eTag.R w (Old w) es' y) :
    Calls Try.prog 22 #[.agg es.toArray, .agg es'.toArray] w fun e w' => e = .returned (.bool (eq_Tag x y)) ∧ Below w.heap.size w w' := by
  obtain ⟨Ax1, cx1, Ax2, cx2, rfl, gx0, gx1, gx2⟩ := shape_Tag h
  obtain ⟨Ay1, cy1, Ay2, cy2, rfl, gy0, gy1, gy2⟩ := shape_Tag h'
  have HB0 := Lib.hid (((Below.refl w.heap.size w).alloc (Nat.le_refl _) (.cells #[.int .i64 x.1, .slice Ax1 x.2.1.length cx1, .slice Ax2 x.2.2.length cx2] 32)).alloc (by simp) (.cells #[.int .i64 y.1, .slice Ay1 y.2.1.length cy1, .slice Ay2 y.2.2.length cy2] 32))
  have HX1 := Lib.hid (gx1.on HB0.out); clear gx1
  have HY1 := Lib.hid (gy1.on HB0.out); clear gy1
  have HX2 := Lib.hid (gx2.on HB0.out); clear gx2
  have HY2 := Lib.hid (gy2.on HB0.out); clear gy2
  clear gx0 gy0
  cases t0 : eq_i x.1 y.1
  · rw [show eq_Tag x y = false from by unfold eq_Tag; simp [t0]]
    have t0' : (x.1 != y.1) = true := by simp only [eq_i] at t0; simp [bne, t0]
    go_enter Try.func22, Try.ntmps22
    go_wp2
    go_ret
    exact ⟨rfl, HB0.out⟩
  have t0' : (x.1 != y.1) = false := by simp only [eq_i] at t0; simp [bne, t0]
  cases t1 : eq_LL x.2.1 y.2.1
  · rw [show eq_Tag x y = false from by unfold eq_Tag; simp [t0, t1]]
    go_enter Try.func22, Try.ntmps22
    go_wp2_with fail
    refine (eq_LL_c _ _ _ _ x.2.1 y.2.1 _ HX1.out HY1.out).mono ?_
    rintro e w1 ⟨rfl, hb⟩
    rw [t1]
    have HB1 := Lib.hid hb
    clear hb
    obtain ⟨hc, hf⟩ := bcell HB1.out
    go_wp2
    go_ret
    exact ⟨rfl, below_trans HB0.out HB1.out⟩
  cases t2 : eq_L x.2.2 y.2.2
  · rw [show eq_Tag x y = false from by unfold eq_Tag; simp [t0, t1, t2]]
    go_enter Try.func22, Try.ntmps22
    go_wp2_with fail
    refine (eq_LL_c _ _ _ _ x.2.1 y.2.1 _ HX1.out HY1.out).mono ?_
    rintro e w1 ⟨rfl, hb⟩
    rw [t1]
    have HB1 := Lib.hid hb
    clear hb
    obtain ⟨hc, hf⟩ := bcell HB1.out
    go_wp2_with fail
    refine (eq_L_c _ _ _ _ x.2.2 y.2.2 _ (HX2.out.on HB1.out) (HY2.out.on HB1.out)).mono ?_
    rintro e w2 ⟨rfl, hb⟩
    rw [t2]
    have HB2 := Lib.hid (below_trans HB1.out hb)
    clear hb
    obtain ⟨hc, hf⟩ := bcell HB2.out
    go_wp2
    go_ret
    exact ⟨rfl, below_trans HB0.out HB2.out⟩
  rw [show eq_Tag x y = true from by unfold eq_Tag; simp [t0, t1, t2]]
  go_enter Try.func22, Try.ntmps22
  go_wp2_with fail
  refine (eq_LL_c _ _ _ _ x.2.1 y.2.1 _ HX1.out HY1.out).mono ?_
  rintro e w1 ⟨rfl, hb⟩
  rw [t1]
  have HB1 := Lib.hid hb
  clear hb
  obtain ⟨hc, hf⟩ := bcell HB1.out
  go_wp2_with fail
  refine (eq_L_c _ _ _ _ x.2.2 y.2.2 _ (HX2.out.on HB1.out) (HY2.out.on HB1.out)).mono ?_
  rintro e w2 ⟨rfl, hb⟩
  rw [t2]
  have HB2 := Lib.hid (below_trans HB1.out hb)
  clear hb
  obtain ⟨hc, hf⟩ := bcell HB2.out
  go_wp2
  go_ret
  exact ⟨rfl, below_trans HB0.out HB2.out⟩

theorem cost_mem {α : Type} (f : α → Nat) (xs : List α) (k : Nat) (h : k < xs.length) : f xs[k] + xs.length ≤ costL f xs := by
  have h1 := costL_take f xs k h
  have h2 := cost_le f xs (k + 1)
  unfold costL
  omega

theorem info_impl_Int64 : (Try.prog.info? 2).map (fun i => (i.zero, i.size, i.bytes)) = some (some (.int .i64 0), 1, 8) := by kernel_rfl

theorem info_impl_Int64S : (Try.prog.info? 30).map (fun i => (i.zero, i.size, i.bytes)) = some (some (.slice none 0 0), 1, 24) := by kernel_rfl

set_option maxHeartbeats 1000000 in
theorem to_Int64S (A : Option Addr) (c : Nat) (xs : List Int) (w : World) (h : Sl eInt w (Old w) A c xs) (hsm : cost_L xs ≤ 1048576) :
    Calls Try.prog 117 #[.slice A xs.length c] w fun e w' => ∃ A' c', e = .returned (.slice A' xs.length c') ∧ So eInt w' (Fr w w') A' c' xs ∧ Below w.heap.size w w' := by
  obtain ⟨i0, hi0, hz0, hz1, hz2⟩ := info_parts info_impl_Int64
  have hlen := h.len
  have hsl : xs.length ≤ 1048576 := by exact hsm
  have HCO := Lib.hid hsm; clear hsm
  have H := Lib.hid h; clear h
  go_enter Try.func117, Try.ntmps117
  go_wp2_with (at_make; refine wpList_make_full _ rfl _ _ 30 rfl w.heap.size 2 i0 _ 1 Try.underlying30 hi0 hz0 hz1 _ _ _ _ xs.length rfl rfl rfl rfl (by rw [hz2]; omega) (by unfold maxLen; omega) (Nat.le_refl _) ?_)
  intro w1 hown hgrow
  obtain ⟨cur, hB, hs, ht, hn1, hn2⟩ := Blk.of_own hown
  have HB := Lib.hid hB; clear hB
  have HS : Hid (cur.size = xs.length) := by show _ = _; omega
  have hbel : Below w.heap.size w w1 := (Below.refl _ _).grown hgrow (Nat.le_refl _) (by simp)
  have HL := Lib.hid hbel; clear hbel
  clear hs ht hn1 hn2 hgrow hown hi0 hz0 hz1 hz2
  go_wp2_with fail
  go_loopw [4] (fun s4 wr => ∃ (k : Nat) (cur : Array Value), k ≤ xs.length ∧ s4 = .int .i64 k ∧ Hid (Below w.heap.size w wr) ∧ Hid (Blk wr w.heap.size 2 cur) ∧ Hid (cur.size = xs.length) ∧ Hid (Filled eInt wr w.heap.size (fun b => w.heap.size ≤ b) cur k xs)) (fun s4 _ => xs.length - (intOf s4).toNat)
  case atStart => exact ⟨0, cur, Nat.zero_le _, rfl, HL, HB, HS, Filled.zero⟩
  case round =>
    clear HB HS HL
    obtain ⟨k, cur, hk, rfl, HL, HB, HS, HF⟩ := hrel
    by_cases hlt : k < xs.length
    · have hltz : (k : Int) < (xs.length : Int) := by omega
      obtain ⟨b, off, es, rfl, hb, hR, hc⟩ := H.out.at1 rfl hlt
      have HX : Hid (xs[k]? = some xs[k]) := List.getElem?_eq_getElem hlt
      obtain ⟨rfl, gq⟩ := hR
      have d0 : wr.cell? ⟨b, off + k, none⟩ = some (.int .i64 xs[k]) := (below_olds HL.out _ hb).trans (hc _ rfl)
      have HR := Lib.hid gq
      clear hc gq
      try clear hR
      obtain ⟨v0, hv0⟩ : ∃ v, cur[k]? = some v := get_some (by have := HS.out; omega)
      have HV0 := Lib.hid hv0; clear hv0
      generalize xs[k] = y at d0 HX HR
      have e0 : wr.cell? ⟨w.heap.size, k, none⟩ = some v0 := (HB.out.cell _).trans HV0.out
      have f0 := HB.out.frozen (k)
      go_wp2
      go_roundw
      case rel =>
        exact ⟨k + 1, setAll cur k [_], by omega, by go_num, HL.out.setCell (Nat.le_refl _) _, HB.out.set _ _, (size_setAll _ _ _).trans HS.out, by
          have := (HF.out.set k (.int .i64 y)).step (w' := wr.setCell ⟨w.heap.size, k, none⟩ (.int .i64 y)) (T0 := fun _ => False) (es := [.int .i64 y]) (fun _ _ _ => rfl) (Nat.le_refl _) HX.out ⟨rfl, HR.out⟩ (fun _ h => h.elim) (by have := HS.out; show (k + 1) * 1 ≤ _; omega)
          rw [show k * eInt.size = k from Nat.mul_one k] at this
          exact this⟩
      case measure => simp [intOf]; omega
    · have hltz : ¬ (k : Int) < (xs.length : Int) := by omega
      obtain rfl : k = xs.length := by omega
      go_wp2
      go_ret
      exact ⟨_, _, rfl, HF.out.soFr HB.out (Nat.le_refl _) (by unfold maxLen; omega), HL.out⟩

set_option maxHeartbeats 1000000 in
theorem to_Int64SS (A : Option Addr) (c : Nat) (xs : List (List Int)) (w : World) (h : Sl (eSl eInt) w (Old w) A c xs) (hsm : cost_LL xs ≤ 1048576) :
    Calls Try.prog 95 #[.slice A xs.length c] w fun e w' => ∃ A' c', e = .returned (.slice A' xs.length c') ∧ So (eSl eInt) w' (Fr w w') A' c' xs ∧ Below w.heap.size w w' := by
  obtain ⟨i0, hi0, hz0, hz1, hz2⟩ := info_parts info_impl_Int64S
  have hlen := h.len
  have hsl : xs.length ≤ 1048576 := by have : cost_LL xs = costL cost_L xs := rfl; unfold costL at this; omega
  have HCO := Lib.hid hsm; clear hsm
  have H := Lib.hid h; clear h
  go_enter Try.func95, Try.ntmps95
  go_wp2_with (at_make; refine wpList_make_full _ rfl _ _ 29 rfl w.heap.size 30 i0 _ 1 Try.underlying29 hi0 hz0 hz1 _ _ _ _ xs.length rfl rfl rfl rfl (by rw [hz2]; omega) (by unfold maxLen; omega) (Nat.le_refl _) ?_)
  intro w1 hown hgrow
  obtain ⟨cur, hB, hs, ht, hn1, hn2⟩ := Blk.of_own hown
  have HB := Lib.hid hB; clear hB
  have HS : Hid (cur.size = xs.length) := by show _ = _; omega
  have hbel : Below w.heap.size w w1 := (Below.refl _ _).grown hgrow (Nat.le_refl _) (by simp)
  have HL := Lib.hid hbel; clear hbel
  clear hs ht hn1 hn2 hgrow hown hi0 hz0 hz1 hz2
  go_wp2_with fail
  go_loopw [4] (fun s4 wr => ∃ (k : Nat) (cur : Array Value), k ≤ xs.length ∧ s4 = .int .i64 k ∧ Hid (Below w.heap.size w wr) ∧ Hid (Blk wr w.heap.size 30 cur) ∧ Hid (cur.size = xs.length) ∧ Hid (Filled (eSl eInt) wr w.heap.size (fun b => w.heap.size ≤ b) cur k xs)) (fun s4 _ => xs.length - (intOf s4).toNat)
  case atStart => exact ⟨0, cur, Nat.zero_le _, rfl, HL, HB, HS, Filled.zero⟩
  case round =>
    clear HB HS HL
    obtain ⟨k, cur, hk, rfl, HL, HB, HS, HF⟩ := hrel
    by_cases hlt : k < xs.length
    · have hltz : (k : Int) < (xs.length : Int) := by omega
      obtain ⟨b, off, es, rfl, hb, hR, hc⟩ := H.out.at1 rfl hlt
      have HX : Hid (xs[k]? = some xs[k]) := List.getElem?_eq_getElem hlt
      have HCS : Hid (cost_L xs[k] ≤ 1048576) := by have h1 := cost_mem cost_L xs k hlt; have h2 : cost_LL xs = costL cost_L xs := rfl; have := HCO.out; show _ ≤ _; omega
      obtain ⟨Aq, cq, rfl, gq⟩ := hR
      have d0 : wr.cell? ⟨b, off + k, none⟩ = some (.slice Aq xs[k].length cq) := (below_olds HL.out _ hb).trans (hc _ rfl)
      have HR := Lib.hid (gq.on HL.out)
      clear hc gq
      try clear hR
      obtain ⟨v0, hv0⟩ : ∃ v, cur[k]? = some v := get_some (by have := HS.out; omega)
      have HV0 := Lib.hid hv0; clear hv0
      generalize xs[k] = y at d0 HX HR HCS
      go_wp2_with fail
      refine (to_Int64S _ _ y _ HR.out HCS.out).mono ?_
      rintro e w2 ⟨A2, c2, rfl, ho2, hb2⟩
      have HO2 : Hid ((eSl eInt).O w2 (Fr wr w2) [.slice A2 y.length c2] y) := ⟨_, _, rfl, ho2⟩; clear ho2
      have hB2 := HB.out.on hb2
      have e0 : w2.cell? ⟨w.heap.size, k, none⟩ = some v0 := (hB2.cell _).trans HV0.out
      have f0 := hB2.frozen (k)
      have HB2 := Lib.hid hB2; clear hB2
      have HL2 := Lib.hid hb2; clear hb2
      go_wp2
      go_roundw
      case rel =>
        have hL := HL.out
        have hL2 := HL2.out
        have hbs : ∀ b, b ≠ w.heap.size → ∀ W : World, (∀ b, b ≠ w.heap.size → W.heap[b]? = w2.heap[b]?) → W.heap[b]? = w2.heap[b]? := fun b hb W h => h b hb
        have hW : ∀ b, b ≠ w.heap.size → (w2.setCell ⟨w.heap.size, k, none⟩ (.slice A2 y.length c2)).heap[b]? = w2.heap[b]? := fun b hb => by
          rw [Below.heap_setCell _ _ _ _ (by exact hb)]
        have hsz : (w2.setCell ⟨w.heap.size, k, none⟩ (.slice A2 y.length c2)).heap.size = w2.heap.size := by simp [World.setCell]
        refine ⟨k + 1, setAll cur (k) [.slice A2 y.length c2], by omega, by go_num, ((hL.trans (hL2.mono hL.size)).setCell (Nat.le_refl _) _), (HB2.out.set _ _), (size_setAll _ _ _).trans HS.out, ?_⟩
        have hstep := (HF.out).step (w' := w2.setCell ⟨w.heap.size, k, none⟩ (.slice A2 y.length c2)) (T0 := Fr wr w2) (es := [.slice A2 y.length c2]) (fun b hb hlt => (hW b hb).trans (hL2.block b hlt)) (by rw [hsz]; exact hL2.size) HX.out
          ((eSl eInt).okeep HO2.out fun b hb => hW b (fun e => by have := HB.out.lt; have := hb.1; omega)) (fun b hb => ⟨Nat.le_trans hL.size hb.1, fun e => by have := HB.out.lt; have := hb.1; omega, hb.1, by rw [hsz]; exact hb.2⟩) (by have := HS.out; show (k + 1) * 1 ≤ _; omega)
        rw [show k * (eSl eInt).size = k from Nat.mul_one k] at hstep
        exact hstep
      case measure => simp [intOf]; omega
    · have hltz : ¬ (k : Int) < (xs.length : Int) := by omega
      obtain rfl : k = xs.length := by omega
      go_wp2
      go_ret
      exact ⟨_, _, rfl, HF.out.soFr HB.out (Nat.le_refl _) (by unfold maxLen; omega), HL.out⟩

set_option maxRecDepth 100000 in
set_option maxHeartbeats 2000000 in
theorem to_Tag (es : List Value) (x : tTag) (w : World) (h : eTag.R w (Old w) es x) (hcost : cost_Tag x ≤ 1048576) :
    Calls Try.prog 68 #[.agg es.toArray] w fun e w' => ∃ es', e = .returned (.agg es'.toArray) ∧ eTag.O w' (Fr w w') es' x ∧ Below w.heap.size w w' := by
  obtain ⟨A1, c1, A2, c2, rfl, g0, g1, g2⟩ := shape_Tag h
  have HC : Hid (cost_Tag x ≤ 1048576) := hcost
  unfold cost_Tag at hcost
  have HB0 : Hid (Below w.heap.size w (((w.alloc (.cells #[.int .i64 x.1, .slice A1 x.2.1.length c1, .slice A2 x.2.2.length c2] 95)).alloc (.cells #[.int .i64 0, .slice none 0 0, .slice none 0 0] 32)).alloc (.cells #[.int .i64 x.1, .slice none 0 0, .slice none 0 0] 32))) := by show Below _ _ _; go_grown
  have hc1 : cost_LL x.2.1 ≤ 1048576 := by omega
  have HC1 := Lib.hid hc1; clear hc1
  have K1 := Lib.hid g1; clear g1
  have hc2 : cost_L x.2.2 ≤ 1048576 := by omega
  have HC2 := Lib.hid hc2; clear hc2
  have K2 := Lib.hid g2; clear g2
  have G0 := Lib.hid g0; clear g0
  clear hcost h
  go_enter Try.func68, Try.ntmps68
  go_wp2_with fail
  refine (to_Int64SS _ _ x.2.1 _ (by exact K1.out.on HB0.out) HC1.out).mono ?_
  rintro e w1 ⟨A1', c1', rfl, hs, hb⟩
  have HS1 := Lib.hid hs; clear hs
  have BL1 := Lib.hid (HB0.out.trans (hb.mono HB0.out.size))
  have HBW1 := Lib.hid hb; clear hb
  have HX := Lib.hid ((((Blk.new w 95 #[.int .i64 x.1, .slice A1 x.2.1.length c1, .slice A2 x.2.2.length c2]).alloc _).alloc _).on HBW1.out)
  have HR := Lib.hid (((Blk.new1 w _ 32 #[.int .i64 0, .slice none 0 0, .slice none 0 0]).alloc _).on HBW1.out)
  have HO : Hid (Blk w1 (w.heap.size + 1 + 1) 32 #[.int .i64 x.1, .slice none 0 0, .slice none 0 0]) := (Blk.new2 w _ _ 32 #[.int .i64 x.1, .slice none 0 0, .slice none 0 0]).on HBW1.out
  have x0 : w1.cell? ⟨w.heap.size, 0, none⟩ = some (.int .i64 x.1) := HX.out.cell 0
  have o0 : w1.cell? ⟨w.heap.size + 1 + 1, 0, none⟩ = some (.int .i64 x.1) := HO.out.cell 0
  have r0 : w1.cell? ⟨w.heap.size + 1, 0, none⟩ = some (.int .i64 0) := HR.out.cell 0
  have p0 : w1.frozen? ⟨w.heap.size + 1 + 1, 0, none⟩ = false := HO.out.frozen 0
  have q0 : w1.frozen? ⟨w.heap.size + 1, 0, none⟩ = false := HR.out.frozen 0
  have x1 : w1.cell? ⟨w.heap.size, 1, none⟩ = some (.slice A1 x.2.1.length c1) := HX.out.cell 1
  have o1 : w1.cell? ⟨w.heap.size + 1 + 1, 1, none⟩ = some (.slice none 0 0) := HO.out.cell 1
  have r1 : w1.cell? ⟨w.heap.size + 1, 1, none⟩ = some (.slice none 0 0) := HR.out.cell 1
  have p1 : w1.frozen? ⟨w.heap.size + 1 + 1, 1, none⟩ = false := HO.out.frozen 1
  have q1 : w1.frozen? ⟨w.heap.size + 1, 1, none⟩ = false := HR.out.frozen 1
  have x2 : w1.cell? ⟨w.heap.size, 2, none⟩ = some (.slice A2 x.2.2.length c2) := HX.out.cell 2
  have o2 : w1.cell? ⟨w.heap.size + 1 + 1, 2, none⟩ = some (.slice none 0 0) := HO.out.cell 2
  have r2 : w1.cell? ⟨w.heap.size + 1, 2, none⟩ = some (.slice none 0 0) := HR.out.cell 2
  have p2 : w1.frozen? ⟨w.heap.size + 1 + 1, 2, none⟩ = false := HO.out.frozen 2
  have q2 : w1.frozen? ⟨w.heap.size + 1, 2, none⟩ = false := HR.out.frozen 2
  go_wp2_with fail
  refine (to_Int64S _ _ x.2.2 _ (by exact K2.out.on (BL1.out.setCell (p := ⟨w.heap.size + 1 + 1, 1, none⟩) (by show w.heap.size ≤ w.heap.size + 1 + 1; omega) _)) HC2.out).mono ?_
  rintro e w2 ⟨A2', c2', rfl, hs, hb⟩
  have HS2 := Lib.hid hs; clear hs
  have BL2 := Lib.hid ((BL1.out.setCell (p := ⟨w.heap.size + 1 + 1, 1, none⟩) (by show w.heap.size ≤ w.heap.size + 1 + 1; omega) _).trans (hb.mono (BL1.out.setCell (p := ⟨w.heap.size + 1 + 1, 1, none⟩) (by show w.heap.size ≤ w.heap.size + 1 + 1; omega) _).size))
  have HBW2 := Lib.hid hb; clear hb
  have HX' := Lib.hid ((HX.out.far (p := ⟨w.heap.size + 1 + 1, 1, none⟩) (by show w.heap.size ≠ w.heap.size + 1 + 1; omega) _).on HBW2.out); clear HX; have HX := HX'; clear HX'
  have HR' := Lib.hid ((HR.out.far (p := ⟨w.heap.size + 1 + 1, 1, none⟩) (by show w.heap.size + 1 ≠ w.heap.size + 1 + 1; omega) _).on HBW2.out); clear HR; have HR := HR'; clear HR'
  have HO' : Hid (Blk w2 (w.heap.size + 1 + 1) 32 #[.int .i64 x.1, .slice A1' x.2.1.length c1', .slice none 0 0]) := (HO.out.set _ _).on HBW2.out; clear HO; have HO := HO'; clear HO'
  clear x0 o0 r0 p0 q0 x1 o1 r1 p1 q1 x2 o2 r2 p2 q2
  have x0 : w2.cell? ⟨w.heap.size, 0, none⟩ = some (.int .i64 x.1) := HX.out.cell 0
  have o0 : w2.cell? ⟨w.heap.size + 1 + 1, 0, none⟩ = some (.int .i64 x.1) := HO.out.cell 0
  have r0 : w2.cell? ⟨w.heap.size + 1, 0, none⟩ = some (.int .i64 0) := HR.out.cell 0
  have p0 : w2.frozen? ⟨w.heap.size + 1 + 1, 0, none⟩ = false := HO.out.frozen 0
  have q0 : w2.frozen? ⟨w.heap.size + 1, 0, none⟩ = false := HR.out.frozen 0
  have x1 : w2.cell? ⟨w.heap.size, 1, none⟩ = some (.slice A1 x.2.1.length c1) := HX.out.cell 1
  have o1 : w2.cell? ⟨w.heap.size + 1 + 1, 1, none⟩ = some (.slice A1' x.2.1.length c1') := HO.out.cell 1
  have r1 : w2.cell? ⟨w.heap.size + 1, 1, none⟩ = some (.slice none 0 0) := HR.out.cell 1
  have p1 : w2.frozen? ⟨w.heap.size + 1 + 1, 1, none⟩ = false := HO.out.frozen 1
  have q1 : w2.frozen? ⟨w.heap.size + 1, 1, none⟩ = false := HR.out.frozen 1
  have x2 : w2.cell? ⟨w.heap.size, 2, none⟩ = some (.slice A2 x.2.2.length c2) := HX.out.cell 2
  have o2 : w2.cell? ⟨w.heap.size + 1 + 1, 2, none⟩ = some (.slice none 0 0) := HO.out.cell 2
  have r2 : w2.cell? ⟨w.heap.size + 1, 2, none⟩ = some (.slice none 0 0) := HR.out.cell 2
  have p2 : w2.frozen? ⟨w.heap.size + 1 + 1, 2, none⟩ = false := HO.out.frozen 2
  have q2 : w2.frozen? ⟨w.heap.size + 1, 2, none⟩ = false := HR.out.frozen 2
  go_wp2
  have hE : Blk ((((w2.setCell ⟨w.heap.size + 1 + 1, 2, none⟩ (.slice A2' x.2.2.length c2')).setCell ⟨w.heap.size + 1, 0, none⟩ (.int .i64 x.1)).setCell ⟨w.heap.size + 1, 1, none⟩ (.slice A1' x.2.1.length c1')).setCell ⟨w.heap.size + 1, 2, none⟩ (.slice A2' x.2.2.length c2')) (w.heap.size + 1) 32 #[.int .i64 x.1, .slice A1' x.2.1.length c1', .slice A2' x.2.2.length c2'] := ((((HR.out.far (p := ⟨w.heap.size + 1 + 1, 2, none⟩) (by show w.heap.size + 1 ≠ w.heap.size + 1 + 1; omega) _).set _ _).set _ _).set _ _)
  have e0 : ((((w2.setCell ⟨w.heap.size + 1 + 1, 2, none⟩ (.slice A2' x.2.2.length c2')).setCell ⟨w.heap.size + 1, 0, none⟩ (.int .i64 x.1)).setCell ⟨w.heap.size + 1, 1, none⟩ (.slice A1' x.2.1.length c1')).setCell ⟨w.heap.size + 1, 2, none⟩ (.slice A2' x.2.2.length c2')).cell? ⟨w.heap.size + 1, 0, none⟩ = some (.int .i64 x.1) := hE.cell 0
  have e1 : ((((w2.setCell ⟨w.heap.size + 1 + 1, 2, none⟩ (.slice A2' x.2.2.length c2')).setCell ⟨w.heap.size + 1, 0, none⟩ (.int .i64 x.1)).setCell ⟨w.heap.size + 1, 1, none⟩ (.slice A1' x.2.1.length c1')).setCell ⟨w.heap.size + 1, 2, none⟩ (.slice A2' x.2.2.length c2')).cell? ⟨w.heap.size + 1, 1, none⟩ = some (.slice A1' x.2.1.length c1') := hE.cell 1
  have e2 : ((((w2.setCell ⟨w.heap.size + 1 + 1, 2, none⟩ (.slice A2' x.2.2.length c2')).setCell ⟨w.heap.size + 1, 0, none⟩ (.int .i64 x.1)).setCell ⟨w.heap.size + 1, 1, none⟩ (.slice A1' x.2.1.length c1')).setCell ⟨w.heap.size + 1, 2, none⟩ (.slice A2' x.2.2.length c2')).cell? ⟨w.heap.size + 1, 2, none⟩ = some (.slice A2' x.2.2.length c2') := hE.cell 2
  refine bodyPost_ret (v := .agg #[.int .i64 x.1, .slice A1' x.2.1.length c1', .slice A2' x.2.2.length c2']) (by simp [results, Try.results68, go_sem, e0, e1, e2]) rfl ?_
  have t1 : w.heap.size + 3 ≤ w1.heap.size := by have h1 := HBW1.out.size; simp only [World.size_alloc] at h1; omega
  have t2 : w.heap.size + 3 ≤ w2.heap.size := by have h1 := HBW1.out.size; simp only [World.size_alloc] at h1; have h2 := HBW2.out.size; simp only [World.size_setCell] at h2; omega
  refine ⟨[.int .i64 x.1, .slice A1' x.2.1.length c1', .slice A2' x.2.2.length c2'], rfl, ?_, ?_⟩
  · have sE1 : So (eSl eInt) ((((w2.setCell ⟨w.heap.size + 1 + 1, 2, none⟩ (.slice A2' x.2.2.length c2')).setCell ⟨w.heap.size + 1, 0, none⟩ (.int .i64 x.1)).setCell ⟨w.heap.size + 1, 1, none⟩ (.slice A1' x.2.1.length c1')).setCell ⟨w.heap.size + 1, 2, none⟩ (.slice A2' x.2.2.length c2')) (Iv w.heap.size w1.heap.size) _ _ x.2.1 := (HS1.out.keep (w' := ((((w2.setCell ⟨w.heap.size + 1 + 1, 2, none⟩ (.slice A2' x.2.2.length c2')).setCell ⟨w.heap.size + 1, 0, none⟩ (.int .i64 x.1)).setCell ⟨w.heap.size + 1, 1, none⟩ (.slice A1' x.2.1.length c1')).setCell ⟨w.heap.size + 1, 2, none⟩ (.slice A2' x.2.2.length c2'))) fun b hb => (((((((Lat.refl (w.heap.size + 3) w1).set (p := ⟨w.heap.size + 1 + 1, 1, none⟩) (by show w.heap.size + 1 + 1 < _; omega)).below HBW2.out).set (p := ⟨w.heap.size + 1 + 1, 2, none⟩) (by show w.heap.size + 1 + 1 < _; omega)).set (p := ⟨w.heap.size + 1, 0, none⟩) (by show w.heap.size + 1 < _; omega)).set (p := ⟨w.heap.size + 1, 1, none⟩) (by show w.heap.size + 1 < _; omega)).set (p := ⟨w.heap.size + 1, 2, none⟩) (by show w.heap.size + 1 < _; omega)).block b (by have h1 := hb.1; simp only [World.size_alloc, World.size_setCell] at h1; omega) hb.2).more (Iv.mono (by simp only [World.size_alloc]; omega) (by omega))
    have u2 : w1.heap.size ≤ w2.heap.size := by have := HBW2.out.size; simp only [World.size_setCell] at this; omega
    have sE2 : So eInt ((((w2.setCell ⟨w.heap.size + 1 + 1, 2, none⟩ (.slice A2' x.2.2.length c2')).setCell ⟨w.heap.size + 1, 0, none⟩ (.int .i64 x.1)).setCell ⟨w.heap.size + 1, 1, none⟩ (.slice A1' x.2.1.length c1')).setCell ⟨w.heap.size + 1, 2, none⟩ (.slice A2' x.2.2.length c2')) (Iv w1.heap.size ((((w2.setCell ⟨w.heap.size + 1 + 1, 2, none⟩ (.slice A2' x.2.2.length c2')).setCell ⟨w.heap.size + 1, 0, none⟩ (.int .i64 x.1)).setCell ⟨w.heap.size + 1, 1, none⟩ (.slice A1' x.2.1.length c1')).setCell ⟨w.heap.size + 1, 2, none⟩ (.slice A2' x.2.2.length c2')).heap.size) _ _ x.2.2 := (HS2.out.keep (w' := ((((w2.setCell ⟨w.heap.size + 1 + 1, 2, none⟩ (.slice A2' x.2.2.length c2')).setCell ⟨w.heap.size + 1, 0, none⟩ (.int .i64 x.1)).setCell ⟨w.heap.size + 1, 1, none⟩ (.slice A1' x.2.1.length c1')).setCell ⟨w.heap.size + 1, 2, none⟩ (.slice A2' x.2.2.length c2'))) fun b hb => (((((Lat.refl (w.heap.size + 3) w2).set (p := ⟨w.heap.size + 1 + 1, 2, none⟩) (by show w.heap.size + 1 + 1 < _; omega)).set (p := ⟨w.heap.size + 1, 0, none⟩) (by show w.heap.size + 1 < _; omega)).set (p := ⟨w.heap.size + 1, 1, none⟩) (by show w.heap.size + 1 < _; omega)).set (p := ⟨w.heap.size + 1, 2, none⟩) (by show w.heap.size + 1 < _; omega)).block b (by have h1 := hb.1; simp only [World.size_alloc, World.size_setCell] at h1; omega) hb.2).more (Iv.mono (by simp only [World.size_setCell]; omega) (by simp only [World.size_setCell]; omega))
    exact (oPrI G0.out (oPr (l := w.heap.size) (m := w1.heap.size) (oSl sE1) (oSl sE2) (by omega) (by first | omega | (simp only [World.size_setCell]; omega))))
  · exact ((((BL2.out.setCell (p := ⟨w.heap.size + 1 + 1, 2, none⟩) (by show w.heap.size ≤ w.heap.size + 1 + 1; omega) _).setCell (p := ⟨w.heap.size + 1, 0, none⟩) (by show w.heap.size ≤ w.heap.size + 1; omega) _).setCell (p := ⟨w.heap.size + 1, 1, none⟩) (by show w.heap.size ≤ w.heap.size + 1; omega) _).setCell (p := ⟨w.heap.size + 1, 2, none⟩) (by show w.heap.size ≤ w.heap.size + 1; omega) _)

def outB (lo hi n : Int) : Bool := !withinB n lo hi

def allW (xs : List Int) (lo hi : Int) : Bool := !xs.any (outB lo hi)

theorem impl_allWithin (A : Option Addr) (c : Nat) (xs : List Int) (lo hi : Int) (w : World) (h : Sl eInt w (Old w) A c xs) :
    Calls Try.prog 133 #[.slice A xs.length c, .int .i64 lo, .int .i64 hi] w fun e w' => e = .returned (.bool (allW xs lo hi)) ∧ w = w' := by
  have hlen := h.len
  have H := Lib.hid h; clear h
  unfold allW
  go_enter Try.func133, Try.ntmps133
  go_wp2
  go_loop [8, 11] (fun _ i => ∃ k : Nat, k ≤ xs.length ∧ i = .int .i64 k ∧ Hid ((xs.take k).any (outB lo hi) = false)) (fun _ i => xs.length - (intOf i).toNat)
  case atStart => exact ⟨0, Nat.zero_le _, rfl, rfl⟩
  case round =>
    obtain ⟨k, hk, rfl, HN⟩ := hrel
    by_cases hlt : k < xs.length
    · have hltz : (k : Int) < (xs.length : Int) := by omega
      obtain ⟨b, off, es, rfl, hb, ⟨rfl, _⟩, hc⟩ := H.out.at1 rfl hlt
      have d0 : w.cell? ⟨b, off + k, none⟩ = some (.int .i64 xs[k]) := hc _ rfl
      clear hc
      have HT : Hid (outB lo hi xs[k] = true → xs.any (outB lo hi) = true) := fun e => any_hit hlt e
      have HS : Hid (outB lo hi xs[k] = false → (xs.take (k + 1)).any (outB lo hi) = false) := fun e => any_step hlt HN.out e
      generalize xs[k] = y at d0 HT HS
      cases q1 : withinB y lo hi
      · go_wp2_with (go_at_call 72; refine (impl_within _ _ _ _).mono ?_; rintro e w' ⟨rfl, rfl⟩; rw [q1])
        go_ret
        exact ⟨by rw [HT.out (by unfold outB; rw [q1]; rfl)]; rfl, rfl⟩
      · go_wp2_with (go_at_call 72; refine (impl_within _ _ _ _).mono ?_; rintro e w' ⟨rfl, rfl⟩; rw [q1])
        go_round
        case rel => exact ⟨k + 1, by omega, by go_num, HS.out (by unfold outB; rw [q1]; rfl)⟩
        case measure => simp [intOf]; omega
    · have hltz : ¬ (k : Int) < (xs.length : Int) := by omega
      obtain rfl : k = xs.length := by omega
      go_wp2
      go_ret
      have hn := HN.out
      rw [List.take_length] at hn
      exact ⟨ret_bool (by rw [hn]; rfl), rfl⟩

def isTagW (xs : List Int) (n : Int) : Bool := decide (xs.length ≤ 1000) && allW xs 0 (n - 1)

theorem impl_isTagWord (A : Option Addr) (c : Nat) (xs : List Int) (n : Int) (w : World) (h : Sl eInt w (Old w) A c xs) (hn : 1 ≤ n) (hn' : n ≤ 1048576) :
    Calls Try.prog 118 #[.slice A xs.length c, .int .i64 n] w fun e w' => e = .returned (.bool (isTagW xs n)) ∧ w = w' := by
  have H := Lib.hid h; clear h
  by_cases h1 : xs.length ≤ 1000
  · have h1' : decide ((xs.length : Int) ≤ 1000) = true := by simp; omega
    rw [show isTagW xs n = allW xs 0 (n - 1) from by unfold isTagW; simp [h1]]
    go_enter Try.func118, Try.ntmps118
    go_wp2_with (go_at_call 133; refine (impl_allWithin _ _ _ _ _ _ H.out).mono ?_; rintro e w' ⟨rfl, rfl⟩)
    go_ret
    exact ⟨rfl, rfl⟩
  · have h1' : decide ((xs.length : Int) ≤ 1000) = false := by simp; omega
    rw [show isTagW xs n = false from by unfold isTagW; simp [h1]]
    go_enter Try.func118, Try.ntmps118
    go_wp2_with fail
    go_ret
    exact ⟨rfl, rfl⟩

def notTagW (n : Int) (xs : List Int) : Bool := !isTagW xs n

theorem enters_wordsOk1 : ∀ args w, (callFunc 140 args).run Try.prog w = .ok (.enter 140 args) w := enters_of Try.func140 (by kernel_rfl) rfl

theorem impl_wordsOk1 (es : List Value) (xs : List Int) (w : World) (h : (eSl eInt).R w (Old w) es xs) (B : Nat) (n : Int) (hn : 1 ≤ n) (hn' : n ≤ 1048576) (hB : w.cell? ⟨B, 0, none⟩ = some (.int .i64 n)) :
    Calls Try.prog 140 #[es[0]!, .pointer (some ⟨B, 0, none⟩)] w fun e w' => e = .returned (.bool (notTagW n xs)) ∧ Below w.heap.size w w' := by
  obtain ⟨A, c, rfl, h⟩ := h
  have H := Lib.hid h; clear h
  show Calls Try.prog 140 #[.slice A xs.length c, .pointer (some ⟨B, 0, none⟩)] w _
  go_enter Try.func140, Try.ntmps140
  go_wp2_with (go_at_call 118; refine (impl_isTagWord _ _ _ _ _ H.out hn hn').mono ?_; rintro e w' ⟨rfl, rfl⟩)
  go_ret
  exact ⟨rfl, Below.refl _ _⟩

theorem impl_wordsOk (A : Option Addr) (c : Nat) (xs : List (List Int)) (n : Int) (w : World) (h : Sl (eSl eInt) w (Old w) A c xs) (hn : 1 ≤ n) (hn' : n ≤ 1048576) :
    Calls Try.prog 97 #[.slice A xs.length c, .int .i64 n] w fun e w' => e = .returned (.bool (!xs.any (notTagW n))) ∧ Below w.heap.size w w' := by
  have hW : Below w.heap.size w (w.alloc (.cells #[.int .i64 n] 2)) := (Below.refl _ _).alloc (Nat.le_refl _) _
  have hI := Lib.hid (ContainsFunc_Int64S (notTagW n) 140 #[.pointer (some ⟨w.heap.size, 0, none⟩)] A c xs _ (h.on hW) enters_wordsOk1 (fun W x es _ hb hR => impl_wordsOk1 es x W hR w.heap.size n hn hn' (by
    rw [hb.cell (p := ⟨w.heap.size, 0, none⟩) (by simp)]; simp [go_sem])))
  have HW := Lib.hid hW; clear hW h
  go_enter Try.func97, Try.ntmps97
  go_wp2_with (go_at_call 139; refine hI.out.mono ?_; rintro e w' ⟨rfl, hb⟩)
  go_ret
  exact ⟨rfl, below_trans HW.out hb⟩

theorem spec_l09Over (A : Option Addr) (c : Nat) (xs : List Int) (n : Int) (w : World) (h : Sl eInt w (Old w) A c xs) (hn : 1 ≤ n) (hn' : n ≤ 1048576) :
    Calls Try.prog 154 #[.slice A xs.length c, .int .i64 n] w fun e w' => e = .returned (.bool (isTagW xs n)) ∧ w = w' := by
  have hlen := h.len
  have H := Lib.hid h; clear h
  have HV : Hid (isTagW xs n = (decide (xs.length ≤ 1000) && !xs.any (outB 0 (n - 1)))) := rfl
  go_enter Try.func154, Try.ntmps154
  go_wp2
  go_loop [5] (fun i => ∃ k : Nat, k ≤ xs.length ∧ i = .int .i64 k ∧ Hid ((xs.take k).any (outB 0 (n - 1)) = false)) (fun i => xs.length - (intOf i).toNat)
  case atStart => exact ⟨0, Nat.zero_le _, rfl, rfl⟩
  case round =>
    obtain ⟨k, hk, rfl, HN⟩ := hrel
    by_cases hlt : k < xs.length
    · have hltz : (k : Int) < (xs.length : Int) := by omega
      obtain ⟨b, off, es, rfl, hb, ⟨rfl, _⟩, hc⟩ := H.out.at1 rfl hlt
      have d0 : w.cell? ⟨b, off + k, none⟩ = some (.int .i64 xs[k]) := hc _ rfl
      clear hc
      have HT : Hid (outB 0 (n - 1) xs[k] = true → xs.any (outB 0 (n - 1)) = true) := fun e => any_hit hlt e
      have HS : Hid (outB 0 (n - 1) xs[k] = false → (xs.take (k + 1)).any (outB 0 (n - 1)) = false) := fun e => any_step hlt HN.out e
      generalize xs[k] = y at d0 HT HS
      cases q1 : withinB y 0 (n - 1)
      · go_wp2_with (go_at_call 119; refine (spec_l00In _ _ _ _).mono ?_; rintro e w' ⟨rfl, rfl⟩; rw [q1])
        go_ret
        exact ⟨ret_bool (by rw [HV.out, HT.out (by unfold outB; rw [q1]; rfl)]; simp), rfl⟩
      · go_wp2_with (go_at_call 119; refine (spec_l00In _ _ _ _).mono ?_; rintro e w' ⟨rfl, rfl⟩; rw [q1])
        go_round
        case rel => exact ⟨k + 1, by omega, by go_num, HS.out (by unfold outB; rw [q1]; rfl)⟩
        case measure => simp [intOf]; omega
    · have hltz : ¬ (k : Int) < (xs.length : Int) := by omega
      obtain rfl : k = xs.length := by omega
      go_wp2
      go_ret
      have hn := HN.out
      rw [List.take_length] at hn
      exact ⟨ret_bool (by rw [HV.out, hn]; simp; omega), rfl⟩

/-- Strictly rising. -/
def risB : List Int → Bool
  | x :: y :: l => decide (x < y) && risB (y :: l)
  | _ => true

theorem risB_get : ∀ (xs : List Int) (k : Nat) (h : k + 1 < xs.length), xs[k + 1] ≤ xs[k] → risB xs = false
  | x :: y :: l, 0, _, h => by rw [risB, decide_eq_false (show ¬ x < y from Int.not_lt.2 h)]; rfl
  | x :: y :: l, k + 1, hk, h => by rw [risB, risB_get (y :: l) k (Nat.lt_of_succ_lt_succ hk) h]; simp
  | [_], k, hk, _ => by simp at hk
  | [], k, hk, _ => by simp at hk

theorem risB_all : ∀ (xs : List Int), (∀ k (h : k + 1 < xs.length), xs[k] < xs[k + 1]) → risB xs = true
  | x :: y :: l, h => by
    have h0 : x < y := h 0 (by simp)
    have h1 : risB (y :: l) = true := risB_all (y :: l) fun k hk => h (k + 1) (Nat.succ_lt_succ hk)
    rw [risB, decide_eq_true h0, h1]; rfl
  | [_], _ => rfl
  | [], _ => rfl

set_option maxHeartbeats 400000 in
theorem impl_rising (A : Option Addr) (c : Nat) (xs : List Int) (w : World) (h : Sl eInt w (Old w) A c xs) :
    Calls Try.prog 132 #[.slice A xs.length c] w fun e w' => e = .returned (.bool (risB xs)) ∧ Below w.heap.size w w' := by
  have hlen := h.len
  have H := Lib.hid h; clear h
  go_enter Try.func132, Try.ntmps132
  go_wp2
  go_loopw [3] (fun s3 wr => ∃ k : Nat, k ≤ xs.length ∧ s3 = .int .i64 ((k : Int) + 1) ∧ Hid (∀ j (h : j + 1 < xs.length), j < k → xs[j] < xs[j + 1]) ∧ Hid (Below w.heap.size w wr)) (fun s3 _ => xs.length + 2 - (intOf s3).toNat)
  case atStart => exact ⟨0, Nat.zero_le _, rfl, fun j _ h => absurd h (Nat.not_lt_zero _), Below.refl _ w⟩
  case round =>
    obtain ⟨k, hk, rfl, HN, BW⟩ := hrel
    by_cases hlt : k + 1 < xs.length
    · have hltz : (k : Int) + 1 < (xs.length : Int) := by omega
      have hlt0 : k < xs.length := by omega
      have hltz0 : (k : Int) < (xs.length : Int) := by omega
      have hz0 : (0 : Int) ≤ (k : Int) := by omega
      have hz1 : (0 : Int) ≤ (k : Int) + 1 := by omega
      obtain ⟨b, off, es, rfl, hb, ⟨rfl, _⟩, hc⟩ := H.out.at1 rfl hlt0
      have d0 : wr.cell? ⟨b, off + k, none⟩ = some (.int .i64 xs[k]) := (below_olds BW.out _ hb).trans (hc _ rfl)
      clear hc hb
      obtain ⟨b', off', es', hA, hb, ⟨rfl, _⟩, hc⟩ := H.out.at1 rfl hlt
      simp only [Option.some.injEq, Addr.mk.injEq, and_true] at hA
      obtain ⟨rfl, rfl⟩ := hA
      have d1 : wr.cell? ⟨b, off + (k + 1), none⟩ = some (.int .i64 xs[k + 1]) := (below_olds BW.out _ hb).trans (hc _ rfl)
      clear hc hb
      have HT : Hid (xs[k + 1] ≤ xs[k] → risB xs = false) := risB_get xs k hlt
      have HS : Hid (xs[k] < xs[k + 1] → ∀ j (h : j + 1 < xs.length), j < k + 1 → xs[j] < xs[j + 1]) := fun e j h hj => by
        by_cases ej : j = k
        · subst ej; exact e
        · exact HN.out j h (by omega)
      generalize xs[k] = x at d0 HT HS
      generalize xs[k + 1] = y at d1 HT HS
      by_cases hq : y ≤ x
      · have HF := Lib.hid (HT.out hq)
        go_wp2_with fail
        go_quiet (fail)
        go_wp2
        go_ret
        exact ⟨ret_bool (by rw [HF.out]), below_drewN BW.out _⟩
      · have HF := Lib.hid (HS.out (Int.not_le.1 hq))
        have hq' : decide (y ≤ x) = false := decide_eq_false hq
        clear hq
        go_wp2_with fail
        go_quiet (fail)
        go_wp2
        go_roundw
        case rel => exact ⟨k + 1, by omega, by go_num, HF.out, below_drewN BW.out _⟩
        case measure => simp [intOf]; omega
    · have hltz : ¬ (k : Int) + 1 < (xs.length : Int) := by omega
      go_wp2
      go_ret
      exact ⟨ret_bool (risB_all xs fun j hj => HN.out j hj (by omega)).symm, BW.out⟩

def validTag (x : tTag) : Bool := withinB x.1 1 4 && withinB x.2.1.length 1 200 && !x.2.1.any (notTagW x.2.1.length) && risB x.2.2 && allW x.2.2 0 (x.2.1.length - 1)

set_option maxHeartbeats 1000000 in
theorem impl_ValidTag (es : List Value) (x : tTag) (w : World) (h : eTag.R w (Old w) es x) :
    Calls Try.prog 69 #[.agg es.toArray] w fun e w' => e = .returned (.bool (validTag x)) ∧ Below w.heap.size w w' := by
  obtain ⟨A1, c1, A2, c2, rfl, _, g1, g2⟩ := shape_Tag h
  clear h
  obtain ⟨d, ws, hs⟩ := x
  have hlen := g1.len
  have hW : Below w.heap.size w (w.alloc (.cells #[.int .i64 d, .slice A1 ws.length c1, .slice A2 hs.length c2] 32)) := (Below.refl _ _).alloc (Nat.le_refl _) _
  have K1 := Lib.hid (g1.on hW); have K2 := Lib.hid (g2.on hW)
  have HX := Lib.hid (Blk.new w 32 #[.int .i64 d, .slice A1 ws.length c1, .slice A2 hs.length c2])
  have HW := Lib.hid hW; clear hW g1 g2
  cases q1 : withinB d 1 4
  · rw [show validTag (d, ws, hs) = false from by unfold validTag; simp [q1]]
    go_enter Try.func69, Try.ntmps69
    go_wp2_with (first | (go_at_call 96; refine (impl_size_Int64S _ _ _ _).mono ?_; rintro e w' ⟨rfl, rfl⟩) | (go_at_call 72; refine (impl_within _ _ _ _).mono ?_; rintro e w' ⟨rfl, rfl⟩; rw [q1]))
    go_ret
    exact ⟨rfl, HW.out⟩
  cases q2 : withinB ws.length 1 200
  · rw [show validTag (d, ws, hs) = false from by unfold validTag; simp [q2]]
    go_enter Try.func69, Try.ntmps69
    go_wp2_with (first | (go_at_call 96; refine (impl_size_Int64S _ _ _ _).mono ?_; rintro e w' ⟨rfl, rfl⟩) | (go_at_call 72; refine (impl_within _ _ _ _).mono ?_; rintro e w' ⟨rfl, rfl⟩; first | rw [q1] | rw [q2]))
    go_ret
    exact ⟨rfl, HW.out⟩
  have q2' := withinB_true.1 q2
  have hO := Lib.hid (impl_wordsOk A1 c1 ws ws.length _ K1.out (by omega) (by omega))
  cases q3 : !ws.any (notTagW ws.length)
  · rw [show validTag (d, ws, hs) = false from by unfold validTag; rw [q3]; simp]
    rw [q3] at hO
    go_enter Try.func69, Try.ntmps69
    go_wp2_with (first | (go_at_call 96; refine (impl_size_Int64S _ _ _ _).mono ?_; rintro e w' ⟨rfl, rfl⟩) | (go_at_call 72; refine (impl_within _ _ _ _).mono ?_; rintro e w' ⟨rfl, rfl⟩; first | rw [q1] | rw [q2]) | (go_at_call 97; refine hO.out.mono ?_; rintro e w' ⟨rfl, hb⟩))
    go_ret
    exact ⟨rfl, below_trans HW.out hb⟩
  cases q4 : risB hs
  · rw [show validTag (d, ws, hs) = false from by unfold validTag; simp [q4]]
    rw [q3] at hO
    go_enter Try.func69, Try.ntmps69
    go_wp2_with (first | (go_at_call 96; refine (impl_size_Int64S _ _ _ _).mono ?_; rintro e w' ⟨rfl, rfl⟩) | (go_at_call 72; refine (impl_within _ _ _ _).mono ?_; rintro e w' ⟨rfl, rfl⟩; first | rw [q1] | rw [q2]))
    refine hO.out.mono ?_
    rintro e w1 ⟨rfl, hb⟩
    have x2 : w1.cell? ⟨w.heap.size, 2, none⟩ = some (.slice A2 hs.length c2) := (HX.out.on hb).cell 2
    have HB := Lib.hid hb; clear hb
    go_wp2_with fail
    refine (impl_rising _ _ _ _ (K2.out.on HB.out)).mono ?_
    rintro e w2 ⟨rfl, hb⟩
    rw [q4]
    go_wp2_with fail
    go_ret
    exact ⟨rfl, below_trans HW.out (below_trans HB.out hb)⟩
  · rw [show validTag (d, ws, hs) = allW hs 0 (ws.length - 1) from by unfold validTag; simp only [q1, q2, q3, q4]; simp]
    rw [q3] at hO
    go_enter Try.func69, Try.ntmps69
    go_wp2_with (first | (go_at_call 96; refine (impl_size_Int64S _ _ _ _).mono ?_; rintro e w' ⟨rfl, rfl⟩) | (go_at_call 72; refine (impl_within _ _ _ _).mono ?_; rintro e w' ⟨rfl, rfl⟩; first | rw [q1] | rw [q2]))
    refine hO.out.mono ?_
    rintro e w1 ⟨rfl, hb⟩
    have x2 : w1.cell? ⟨w.heap.size, 2, none⟩ = some (.slice A2 hs.length c2) := (HX.out.on hb).cell 2
    have HX1 := Lib.hid (HX.out.on hb)
    have HB := Lib.hid hb; clear hb
    go_wp2_with fail
    refine (impl_rising _ _ _ _ (K2.out.on HB.out)).mono ?_
    rintro e w2 ⟨rfl, hb⟩
    rw [q4]
    have x2' : w2.cell? ⟨w.heap.size, 2, none⟩ = some (.slice A2 hs.length c2) := (HX1.out.on hb).cell 2
    have HB2 := Lib.hid (below_trans HB.out hb); clear hb x2
    go_wp2_with fail
    refine (impl_allWithin _ _ _ _ _ _ (K2.out.on HB2.out)).mono ?_
    rintro e w3 ⟨rfl, rfl⟩
    go_wp2_with fail
    go_ret
    exact ⟨rfl, below_trans HW.out HB2.out⟩

theorem Calls.flip {P : Program} {f : FuncId} {args : Array Value} {w : World} {v : Value} (h : Calls P f args w fun e w' => e = .returned v ∧ w = w') : Calls P f args w fun e w' => e = .returned v ∧ w' = w :=
  h.mono fun _ _ ⟨he, hw⟩ => ⟨he, hw.symm⟩

set_option maxRecDepth 100000 in
set_option maxHeartbeats 1000000 in
theorem spec_l00Rises (A : Option Addr) (c : Nat) (xs : List Int) (lo hi : Int) (w : World) (h : Sl eInt w (Old w) A c xs) :
    Calls Try.prog 153 #[.slice A xs.length c, .int .i64 lo, .int .i64 hi] w fun e w' => e = .returned (.bool (risB xs && allW xs lo hi)) ∧ Below w.heap.size w w' := by
  have hlen := h.len
  have H := Lib.hid h; clear h
  go_enter Try.func153, Try.ntmps153
  go_wp2
  go_loopw [7] (fun s7 wr => ∃ k : Nat, k ≤ xs.length ∧ s7 = .int .i64 k ∧ Hid (∀ j (h : j + 1 < xs.length), j + 1 < k → xs[j] < xs[j + 1]) ∧ Hid ((xs.take k).any (outB lo hi) = false) ∧ Hid (Below w.heap.size w wr)) (fun s7 _ => xs.length - (intOf s7).toNat)
  case atStart => exact ⟨0, Nat.zero_le _, rfl, fun j _ h => absurd h (Nat.not_lt_zero _), rfl, Below.refl _ w⟩
  case round =>
    obtain ⟨k, hk, rfl, HN, HM, BW⟩ := hrel
    by_cases hlt : k < xs.length
    · have hltz : (k : Int) < (xs.length : Int) := by omega
      have hz0 : (0 : Int) ≤ (k : Int) := by omega
      obtain ⟨b, off, es, rfl, hb, ⟨rfl, _⟩, hc⟩ := H.out.at1 rfl hlt
      have d1 : wr.cell? ⟨b, off + k, none⟩ = some (.int .i64 xs[k]) := (below_olds BW.out _ hb).trans (hc _ rfl)
      clear hc hb
      have HT : Hid (outB lo hi xs[k] = true → (risB xs && allW xs lo hi) = false) := fun e => by unfold allW; rw [any_hit hlt e]; simp
      have HS : Hid (outB lo hi xs[k] = false → (xs.take (k + 1)).any (outB lo hi) = false) := fun e => any_step hlt HM.out e
      rcases k with _ | k
      · have hg : decide ((0 : Int) < 0) = false := rfl
        simp only [Nat.add_zero] at d1
        generalize xs[0] = y at d1 HT HS
        have hC := Lib.hid fun W => Calls.flip (spec_l00In y lo hi W)
        cases q1 : withinB y lo hi
        · have HF := Lib.hid (HT.out (by unfold outB; rw [q1]; rfl))
          have HC := hC
          rw [q1] at HC
          go_wp2_with fail
          go_quiet ((go_at_call 119; exact Calls.quiet_of_same (HC.out _)))
          go_wp2
          go_ret
          exact ⟨ret_bool (by rw [HF.out]), below_drewN BW.out _⟩
        · have HF := Lib.hid (HS.out (by unfold outB; rw [q1]; rfl))
          have HC := hC
          rw [q1] at HC
          go_wp2_with fail
          go_quiet ((go_at_call 119; exact Calls.quiet_of_same (HC.out _)))
          go_wp2
          go_roundw
          case rel => exact ⟨1, by omega, by go_num, fun j _ hj => by omega, HF.out, below_drewN BW.out _⟩
          case measure => simp [intOf]; omega
      · have hg : decide ((0 : Int) < (k : Int) + 1) = true := decide_eq_true (by omega)
        have hlt0 : k < xs.length := by omega
        have hltz0 : (k : Int) < (xs.length : Int) := by omega
        have hltz1 : (k : Int) + 1 < (xs.length : Int) := by omega
        have hz : (0 : Int) ≤ (k : Int) := by omega
        have hz1 : (0 : Int) ≤ (k : Int) + 1 := by omega
        obtain ⟨b', off', es', hA, hb, ⟨rfl, _⟩, hc⟩ := H.out.at1 rfl hlt0
        simp only [Option.some.injEq, Addr.mk.injEq, and_true] at hA
        obtain ⟨rfl, rfl⟩ := hA
        have d0 : wr.cell? ⟨b, off + k, none⟩ = some (.int .i64 xs[k]) := (below_olds BW.out _ hb).trans (hc _ rfl)
        clear hc hb hz0 hltz
        have HT2 : Hid (xs[k + 1] ≤ xs[k] → (risB xs && allW xs lo hi) = false) := fun e => by rw [risB_get xs k hlt e]; rfl
        have HS2 : Hid (xs[k] < xs[k + 1] → ∀ j (h : j + 1 < xs.length), j + 1 < k + 1 + 1 → xs[j] < xs[j + 1]) := fun e j h hj => by
          by_cases ej : j = k
          · subst ej; exact e
          · exact HN.out j h (by omega)
        generalize xs[k] = x at d0 HT2 HS2
        generalize xs[k + 1] = y at d1 HT HS HT2 HS2
        have hC := Lib.hid fun W => Calls.flip (spec_l00In y lo hi W)
        cases q1 : withinB y lo hi
        · have HF := Lib.hid (HT.out (by unfold outB; rw [q1]; rfl))
          have HC := hC
          rw [q1] at HC
          go_wp2_with fail
          go_quiet ((go_at_call 119; exact Calls.quiet_of_same (HC.out _)))
          go_wp2
          go_ret
          exact ⟨ret_bool (by rw [HF.out]), below_drewN BW.out _⟩
        have HC := hC
        rw [q1] at HC
        by_cases hq : y ≤ x
        · have HF := Lib.hid (HT2.out hq)
          have hq' : decide (y ≤ x) = true := decide_eq_true hq
          clear hq
          go_wp2_with fail
          go_quiet ((go_at_call 119; exact Calls.quiet_of_same (HC.out _)))
          go_wp2
          go_ret
          exact ⟨ret_bool (by rw [HF.out]), below_drewN BW.out _⟩
        · have HF := Lib.hid (HS2.out (Int.not_le.1 hq))
          have HF2 := Lib.hid (HS.out (by unfold outB; rw [q1]; rfl))
          have hq' : decide (y ≤ x) = false := decide_eq_false hq
          clear hq
          go_wp2_with fail
          go_quiet ((go_at_call 119; exact Calls.quiet_of_same (HC.out _)))
          go_wp2
          go_roundw
          case rel => exact ⟨k + 1 + 1, by omega, by go_num, HF.out, HF2.out, below_drewN BW.out _⟩
          case measure => simp [intOf]; omega
    · have hltz : ¬ (k : Int) < (xs.length : Int) := by omega
      obtain rfl : k = xs.length := by omega
      go_wp2
      go_ret
      have hn := HM.out
      rw [List.take_length] at hn
      exact ⟨ret_bool (by unfold allW; rw [hn, risB_all xs fun j hj => HN.out j hj hj]; rfl), BW.out⟩

set_option maxHeartbeats 1000000 in
theorem spec_l09Is (B : Nat) (A1 A2 : Option Addr) (c1 c2 : Nat) (x : tTag) (w : World) (hB0 : w.cell? ⟨B, 0, none⟩ = some (.int .i64 x.1)) (hB1 : w.cell? ⟨B, 1, none⟩ = some (.slice A1 x.2.1.length c1)) (hB2 : w.cell? ⟨B, 2, none⟩ = some (.slice A2 x.2.2.length c2))
    (g1 : Sl (eSl eInt) w (Old w) A1 c1 x.2.1) (g2 : Sl eInt w (Old w) A2 c2 x.2.2) :
    Calls Try.prog 131 #[.pointer (some ⟨B, 0, none⟩)] w fun e w' => e = .returned (.bool (validTag x)) ∧ Below w.heap.size w w' := by
  obtain ⟨d, ws, hs⟩ := x
  have hlen := g1.len
  have hlt : B < w.heap.size := World.block_lt_of_cell? w _ hB0
  have K1 := Lib.hid g1; have K2 := Lib.hid g2; clear g1 g2
  have HV : Hid (validTag (d, ws, hs) = (withinB d 1 4 && withinB ws.length 1 200 && !ws.any (notTagW ws.length) && risB hs && allW hs 0 (ws.length - 1))) := rfl
  cases q1 : withinB d 1 4
  · rw [show validTag (d, ws, hs) = false from by rw [HV.out, q1]; rfl]
    go_enter Try.func131, Try.ntmps131
    go_wp2_with (go_at_call 119; refine (spec_l00In _ _ _ _).mono ?_; rintro e w' ⟨rfl, rfl⟩; rw [q1])
    go_ret
    exact ⟨rfl, Below.refl _ _⟩
  cases q2 : withinB ws.length 1 200
  · rw [show validTag (d, ws, hs) = false from by rw [HV.out, q2]; simp]
    go_enter Try.func131, Try.ntmps131
    go_wp2_with (go_at_call 119; refine (spec_l00In _ _ _ _).mono ?_; rintro e w' ⟨rfl, rfl⟩; first | rw [q1] | rw [q2])
    go_ret
    exact ⟨rfl, Below.refl _ _⟩
  have q2' := withinB_true.1 q2
  have hz1 : (1 : Int) ≤ ws.length := q2'.1
  have hz2 : (ws.length : Int) ≤ 200 := q2'.2
  clear q2'
  cases q3 : risB hs && allW hs 0 (ws.length - 1)
  · rw [show validTag (d, ws, hs) = false from by rw [HV.out]; simp only [Bool.and_assoc]; rw [q3]; simp]
    go_enter Try.func131, Try.ntmps131
    go_wp2_with (first | (go_at_call 119; refine (spec_l00In _ _ _ _).mono ?_; rintro e w' ⟨rfl, rfl⟩; first | rw [q1] | rw [q2]) | (go_at_call 153; refine (spec_l00Rises _ _ _ _ _ _ K2.out).mono ?_; rintro e w1 ⟨rfl, hb⟩; rw [q3]; have HB := Lib.hid hb; clear hb))
    go_ret
    exact ⟨rfl, HB.out⟩
  rw [show validTag (d, ws, hs) = !ws.any (notTagW ws.length) from by rw [HV.out]; simp only [Bool.and_assoc]; rw [q3, q1, q2]; simp]
  go_enter Try.func131, Try.ntmps131
  go_wp2_with (first | (go_at_call 119; refine (spec_l00In _ _ _ _).mono ?_; rintro e w' ⟨rfl, rfl⟩; first | rw [q1] | rw [q2]) | (go_at_call 153; refine (spec_l00Rises _ _ _ _ _ _ K2.out).mono ?_; rintro e w1 ⟨rfl, hb⟩; rw [q3]; have b1 : w1.cell? ⟨B, 1, none⟩ = some (.slice A1 ws.length c1) := (hb.cell (p := ⟨B, 1, none⟩) hlt).trans hB1; have HB := Lib.hid hb; clear hb))
  go_loop [4] (fun i => ∃ k : Nat, k ≤ ws.length ∧ i = .int .i64 k ∧ Hid ((ws.take k).any (notTagW ws.length) = false)) (fun i => ws.length - (intOf i).toNat)
  case atStart => exact ⟨0, Nat.zero_le _, rfl, rfl⟩
  case round =>
    obtain ⟨k, hk, rfl, HN⟩ := hrel
    by_cases hlt : k < ws.length
    · have hltz : (k : Int) < (ws.length : Int) := by omega
      obtain ⟨b, off, es, rfl, hb, ⟨A', c', rfl, g⟩, hc⟩ := K1.out.at1 rfl hlt
      have d0 : w1.cell? ⟨b, off + k, none⟩ = some (.slice A' ws[k].length c') := (below_olds HB.out _ hb).trans (hc _ rfl)
      clear hc
      have HG := Lib.hid (spec_l09Over _ _ _ ws.length w1 (g.on HB.out) hz1 (by omega)); clear g
      have HT : Hid (notTagW ws.length ws[k] = true → ws.any (notTagW ws.length) = true) := fun e => any_hit hlt e
      have HS : Hid (notTagW ws.length ws[k] = false → (ws.take (k + 1)).any (notTagW ws.length) = false) := fun e => any_step hlt HN.out e
      generalize ws[k] = y at d0 HT HS HG
      cases q1 : isTagW y ws.length
      · have HF := Lib.hid (HT.out (by unfold notTagW; rw [q1]; rfl))
        go_wp2_with (go_at_call 154; refine HG.out.mono ?_; rintro e w' ⟨rfl, rfl⟩; rw [q1])
        go_ret
        exact ⟨ret_bool (by rw [HF.out]; rfl), HB.out⟩
      · have HF := Lib.hid (HS.out (by unfold notTagW; rw [q1]; rfl))
        go_wp2_with (go_at_call 154; refine HG.out.mono ?_; rintro e w' ⟨rfl, rfl⟩; rw [q1])
        go_round
        case rel => exact ⟨k + 1, by omega, by go_num, HF.out⟩
        case measure => simp [intOf]; omega
    · have hltz : ¬ (k : Int) < (ws.length : Int) := by omega
      obtain rfl : k = ws.length := by omega
      have hn := HN.out
      rw [List.take_length] at hn
      have HV2 := Lib.hid hn; clear hn
      go_wp2
      go_ret
      exact ⟨ret_bool (by rw [HV2.out]; rfl), HB.out⟩

theorem spec_ValidTag (es : List Value) (x : tTag) (w : World) (h : eTag.R w (Old w) es x) :
    Calls Try.prog 67 #[.agg es.toArray] w fun e w' => e = .returned (.bool (validTag x)) ∧ Below w.heap.size w w' := by
  obtain ⟨A1, c1, A2, c2, rfl, _, g1, g2⟩ := shape_Tag h
  clear h
  have hW : Below w.heap.size w (w.alloc (.cells #[.int .i64 x.1, .slice A1 x.2.1.length c1, .slice A2 x.2.2.length c2] 32)) := (Below.refl _ _).alloc (Nat.le_refl _) _
  have hX := Blk.new w 32 #[.int .i64 x.1, .slice A1 x.2.1.length c1, .slice A2 x.2.2.length c2]
  have hI := Lib.hid (spec_l09Is w.heap.size A1 A2 c1 c2 x _ (hX.cell 0) (hX.cell 1) (hX.cell 2) (g1.on hW) (g2.on hW))
  have HW := Lib.hid hW; clear hW g1 g2 hX
  go_enter Try.func67, Try.ntmps67
  go_wp2_with (go_at_call 131; refine hI.out.mono ?_; rintro e w' ⟨rfl, hb⟩)
  go_ret
  exact ⟨rfl, below_trans HW.out hb⟩

set_option maxRecDepth 100000 in
set_option maxHeartbeats 4000000 in
theorem law_ValidTag (es0 : List Value) (a0 : tTag) (w : World) (h0 : eTag.R w (Old w) es0 a0) :
    Calls Try.prog 14 #[.agg es0.toArray] w fun e w' => e = .returned (.bool true) ∧ Below w.heap.size w w' := by
  have H0 := Lib.hid h0
  obtain ⟨Aa01, ca01, Aa02, ca02, rfl, ga00, ga01, ga02⟩ := shape_Tag h0
  clear ga00 ga01 ga02
  try clear h0
  have HB0 : Hid (Below w.heap.size w (w.alloc (.cells #[.int .i64 a0.1, .slice Aa01 a0.2.1.length ca01, .slice Aa02 a0.2.2.length ca02] 95))) := by show Below _ _ _; go_grown
  by_cases t0 : (1048576 : Int) - (cost_Tag a0 : Nat) < 0
  · go_enter Try.func14, Try.ntmps14
    go_wp2_with fail
    refine (sz_Tag _ a0 _ _ (by exact eTag.on H0.out HB0.out) (by omega) (by omega)).mono ?_
    rintro e z0 ⟨rfl, hb⟩
    rw [left_neg (by omega)]
    have HBz0 := Lib.hid (below_trans HB0.out hb)
    have HX0z0 := Lib.hid ((Blk.new w 95 #[.int .i64 a0.1, .slice Aa01 a0.2.1.length ca01, .slice Aa02 a0.2.2.length ca02]).on hb)
    clear hb
    have fa0_0 : z0.cell? ⟨w.heap.size, 0, none⟩ = some (.int .i64 a0.1) := HX0z0.out.cell 0
    have fa0_1 : z0.cell? ⟨w.heap.size, 1, none⟩ = some (.slice Aa01 a0.2.1.length ca01) := HX0z0.out.cell 1
    have fa0_2 : z0.cell? ⟨w.heap.size, 2, none⟩ = some (.slice Aa02 a0.2.2.length ca02) := HX0z0.out.cell 2
    go_wp2
    go_ret
    exact ⟨rfl, HBz0.out⟩
  have HC0 : Hid (cost_Tag a0 ≤ 1048576) := by show _ ≤ _; omega
  go_enter Try.func14, Try.ntmps14
  go_wp2_with fail
  refine (sz_Tag _ a0 _ _ (by exact eTag.on H0.out HB0.out) (by omega) (by omega)).mono ?_
  rintro e z0 ⟨rfl, hb⟩
  rw [left_pos (by omega)]
  have HBz0 := Lib.hid (below_trans HB0.out hb)
  have HX0z0 := Lib.hid ((Blk.new w 95 #[.int .i64 a0.1, .slice Aa01 a0.2.1.length ca01, .slice Aa02 a0.2.2.length ca02]).on hb)
  clear hb
  have fa0_0 : z0.cell? ⟨w.heap.size, 0, none⟩ = some (.int .i64 a0.1) := HX0z0.out.cell 0
  have fa0_1 : z0.cell? ⟨w.heap.size, 1, none⟩ = some (.slice Aa01 a0.2.1.length ca01) := HX0z0.out.cell 1
  have fa0_2 : z0.cell? ⟨w.heap.size, 2, none⟩ = some (.slice Aa02 a0.2.2.length ca02) := HX0z0.out.cell 2
  go_wp2_with fail
  refine (to_Tag _ a0 _ (by exact eTag.on H0.out HBz0.out) HC0.out).mono ?_
  rintro e ws0 ⟨ess0, rfl, ho, hb⟩
  have hR := eTag.read ho
  have HSs0 := Lib.hid ho; clear ho
  obtain ⟨As01, cs01, As02, cs02, rfl, gs00, gs01, gs02⟩ := shape_Tag hR
  clear gs00 gs01 gs02
  try clear hR
  have hbp : Below z0.heap.size z0 ws0 := hb
  have HBws0 := Lib.hid (below_trans HBz0.out hbp)
  have HX0z0_ := Lib.hid (HX0z0.out.on hbp); clear HX0z0; have HX0z0 := HX0z0_; clear HX0z0_
  clear hbp
  clear hb
  clear fa0_0 fa0_1 fa0_2
  have fa0_0 : ws0.cell? ⟨w.heap.size, 0, none⟩ = some (.int .i64 a0.1) := HX0z0.out.cell 0
  have fa0_1 : ws0.cell? ⟨w.heap.size, 1, none⟩ = some (.slice Aa01 a0.2.1.length ca01) := HX0z0.out.cell 1
  have fa0_2 : ws0.cell? ⟨w.heap.size, 2, none⟩ = some (.slice Aa02 a0.2.2.length ca02) := HX0z0.out.cell 2
  go_wp2_with fail
  refine (spec_ValidTag _ a0 _ (by exact eTag.old HSs0.out)).mono ?_
  rintro e v0 ⟨rfl, hb⟩
  have hbp : Below ws0.heap.size ws0 v0 := hb
  have HBv0 := Lib.hid (below_trans HBws0.out hbp)
  have HX0z0_ := Lib.hid (HX0z0.out.on hbp); clear HX0z0; have HX0z0 := HX0z0_; clear HX0z0_
  clear hbp
  clear hb
  clear fa0_0 fa0_1 fa0_2
  have fa0_0 : v0.cell? ⟨w.heap.size, 0, none⟩ = some (.int .i64 a0.1) := HX0z0.out.cell 0
  have fa0_1 : v0.cell? ⟨w.heap.size, 1, none⟩ = some (.slice Aa01 a0.2.1.length ca01) := HX0z0.out.cell 1
  have fa0_2 : v0.cell? ⟨w.heap.size, 2, none⟩ = some (.slice Aa02 a0.2.2.length ca02) := HX0z0.out.cell 2
  go_wp2_with fail
  refine (to_Tag _ a0 _ (by exact eTag.on H0.out HBv0.out) HC0.out).mono ?_
  rintro e wx0 ⟨esx0, rfl, ho, hb⟩
  have hR := eTag.read ho
  have HSx0 := Lib.hid ho; clear ho
  obtain ⟨Ax01, cx01, Ax02, cx02, rfl, gx00, gx01, gx02⟩ := shape_Tag hR
  clear gx00 gx01 gx02
  try clear hR
  have hbp : Below v0.heap.size v0 wx0 := hb
  have HBwx0 := Lib.hid (below_trans HBv0.out hbp)
  have HX0z0_ := Lib.hid (HX0z0.out.on hbp); clear HX0z0; have HX0z0 := HX0z0_; clear HX0z0_
  clear hbp
  clear hb
  clear fa0_0 fa0_1 fa0_2
  have fa0_0 : wx0.cell? ⟨w.heap.size, 0, none⟩ = some (.int .i64 a0.1) := HX0z0.out.cell 0
  have fa0_1 : wx0.cell? ⟨w.heap.size, 1, none⟩ = some (.slice Aa01 a0.2.1.length ca01) := HX0z0.out.cell 1
  have fa0_2 : wx0.cell? ⟨w.heap.size, 2, none⟩ = some (.slice Aa02 a0.2.2.length ca02) := HX0z0.out.cell 2
  go_wp2_with fail
  refine (impl_ValidTag _ a0 _ (by exact eTag.old (eTag.oon HSx0.out (below_alloc (Below.refl _ _) _)))).mono ?_
  rintro e v1 ⟨rfl, hb⟩
  have hbp : Below wx0.heap.size wx0 v1 := below_trans (below_alloc (Below.refl _ _) _) hb
  have HBv1 := Lib.hid (below_trans HBwx0.out hbp)
  have HX0z0_ := Lib.hid (HX0z0.out.on hbp); clear HX0z0; have HX0z0 := HX0z0_; clear HX0z0_
  have HXx0 := Lib.hid ((Blk.new wx0 32 #[.int .i64 a0.1, .slice Ax01 a0.2.1.length cx01, .slice Ax02 a0.2.2.length cx02]).on hb)
  have HSx0_ := Lib.hid (eTag.oon HSx0.out hbp); clear HSx0; have HSx0 := HSx0_; clear HSx0_
  clear hbp
  clear hb
  clear fa0_0 fa0_1 fa0_2
  have fa0_0 : v1.cell? ⟨w.heap.size, 0, none⟩ = some (.int .i64 a0.1) := HX0z0.out.cell 0
  have fa0_1 : v1.cell? ⟨w.heap.size, 1, none⟩ = some (.slice Aa01 a0.2.1.length ca01) := HX0z0.out.cell 1
  have fa0_2 : v1.cell? ⟨w.heap.size, 2, none⟩ = some (.slice Aa02 a0.2.2.length ca02) := HX0z0.out.cell 2
  have fx0_0 : v1.cell? ⟨wx0.heap.size, 0, none⟩ = some (.int .i64 a0.1) := HXx0.out.cell 0
  have fx0_1 : v1.cell? ⟨wx0.heap.size, 1, none⟩ = some (.slice Ax01 a0.2.1.length cx01) := HXx0.out.cell 1
  have fx0_2 : v1.cell? ⟨wx0.heap.size, 2, none⟩ = some (.slice Ax02 a0.2.2.length cx02) := HXx0.out.cell 2
  go_wp2_with fail
  go_region_held3 (fun w' => w'.cell? ⟨w.heap.size, 0, none⟩ = some (.int .i64 a0.1) ∧ w'.cell? ⟨w.heap.size, 1, none⟩ = some (.slice Aa01 a0.2.1.length ca01) ∧ w'.cell? ⟨w.heap.size, 2, none⟩ = some (.slice Aa02 a0.2.2.length ca02) ∧ w'.cell? ⟨wx0.heap.size, 0, none⟩ = some (.int .i64 a0.1) ∧ w'.cell? ⟨wx0.heap.size, 1, none⟩ = some (.slice Ax01 a0.2.1.length cx01) ∧ w'.cell? ⟨wx0.heap.size, 2, none⟩ = some (.slice Ax02 a0.2.2.length cx02)) (first | (simp [go_sem, *]; done) | (refine ⟨?_, ?_, ?_, ?_, ?_, ?_⟩ <;> assumption))
    (first
      | (go_at_call 68; refine (to_Tag _ a0 _ (by exact eTag.on H0.out (HBv1.out.drew)) HC0.out).mono ?_; rintro e wy0 ⟨esy0, rfl, ho, hb⟩; (have hR := eTag.read ho); (have HSy0 := Lib.hid ho; clear ho); obtain ⟨Ay01, cy01, Ay02, cy02, rfl, gy00, gy01, gy02⟩ := shape_Tag hR; (clear gy00 gy01 gy02); (try clear hR); (have hbp : Below v1.heap.size v1 wy0 := below_trans ((Below.refl _ _).drew) hb); (have HBwy0 := Lib.hid (below_trans HBv1.out hbp)); (have HX0z0_ := Lib.hid (HX0z0.out.on hbp); clear HX0z0; have HX0z0 := HX0z0_; clear HX0z0_); (have HXx0_ := Lib.hid (HXx0.out.on hbp); clear HXx0; have HXx0 := HXx0_; clear HXx0_); (have HSx0_ := Lib.hid (eTag.oon HSx0.out hbp); clear HSx0; have HSx0 := HSx0_; clear HSx0_); (clear hbp); (clear hb); (clear fa0_0 fa0_1 fa0_2 fx0_0 fx0_1 fx0_2); (have fa0_0 : wy0.cell? ⟨w.heap.size, 0, none⟩ = some (.int .i64 a0.1) := HX0z0.out.cell 0); (have fa0_1 : wy0.cell? ⟨w.heap.size, 1, none⟩ = some (.slice Aa01 a0.2.1.length ca01) := HX0z0.out.cell 1); (have fa0_2 : wy0.cell? ⟨w.heap.size, 2, none⟩ = some (.slice Aa02 a0.2.2.length ca02) := HX0z0.out.cell 2); (have fx0_0 : wy0.cell? ⟨wx0.heap.size, 0, none⟩ = some (.int .i64 a0.1) := HXx0.out.cell 0); (have fx0_1 : wy0.cell? ⟨wx0.heap.size, 1, none⟩ = some (.slice Ax01 a0.2.1.length cx01) := HXx0.out.cell 1); (have fx0_2 : wy0.cell? ⟨wx0.heap.size, 2, none⟩ = some (.slice Ax02 a0.2.2.length cx02) := HXx0.out.cell 2))
      | (go_at_call 22; refine (eq_Tag_c _ _ a0 a0 _ (by exact eTag.old HSx0.out) (by exact eTag.old HSy0.out)).mono ?_; rintro e u0 ⟨rfl, hb⟩; rw [eq_Tag_refl]; (have hbp : Below wy0.heap.size wy0 u0 := hb); (have HBu0 := Lib.hid (below_trans HBwy0.out hbp)); (have HX0z0_ := Lib.hid (HX0z0.out.on hbp); clear HX0z0; have HX0z0 := HX0z0_; clear HX0z0_); (have HXx0_ := Lib.hid (HXx0.out.on hbp); clear HXx0; have HXx0 := HXx0_; clear HXx0_); (clear hbp); (clear hb); (clear fa0_0 fa0_1 fa0_2 fx0_0 fx0_1 fx0_2); (have fa0_0 : u0.cell? ⟨w.heap.size, 0, none⟩ = some (.int .i64 a0.1) := HX0z0.out.cell 0); (have fa0_1 : u0.cell? ⟨w.heap.size, 1, none⟩ = some (.slice Aa01 a0.2.1.length ca01) := HX0z0.out.cell 1); (have fa0_2 : u0.cell? ⟨w.heap.size, 2, none⟩ = some (.slice Aa02 a0.2.2.length ca02) := HX0z0.out.cell 2); (have fx0_0 : u0.cell? ⟨wx0.heap.size, 0, none⟩ = some (.int .i64 a0.1) := HXx0.out.cell 0); (have fx0_1 : u0.cell? ⟨wx0.heap.size, 1, none⟩ = some (.slice Ax01 a0.2.1.length cx01) := HXx0.out.cell 1); (have fx0_2 : u0.cell? ⟨wx0.heap.size, 2, none⟩ = some (.slice Ax02 a0.2.2.length cx02) := HXx0.out.cell 2)))
  go_wp2
  go_ret
  exact ⟨rfl, HBu0.out⟩

end Go.Proofs.Ytlnakbbngidogaa
