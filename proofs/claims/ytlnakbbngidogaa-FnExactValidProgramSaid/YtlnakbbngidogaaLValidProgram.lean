/- What the proof of FnExactValidProgram needs: contracts of the functions that it reaches, each once. -/
import Derived.Test.YtlnakbbngidogaaProg
import Derived.Test.YtlnakbbngidogaaQMem
import Derived.WalkKit
import Derived.WalkSpells
import Derived.Below
import Derived.LoopTactic
import Derived.Outline
import Derived.Deep.QuietTactic
import Derived.BigQuiet
import Derived.Deep.LoopGhost
import Derived.Handy
import Derived.Lib.Hide
import Derived.Shelf.Abstract
import Derived.StillTailTactics
import Derived.OwnWalk
import Derived.Maps.AppendAt
import Derived.RegionTactic
import Derived.Deep.RegionHeld3
namespace Go.Proofs.Ytlnakbbngidogaa
open Go.RowKit

abbrev tInstr : Type := Int × Int × Int × Int

abbrev eInstr : Enc tInstr := (ePr eInt (ePr eInt (ePr eInt eInt)))

theorem shape_Instr {w : World} {S : Nat → Prop} {es : List Value} {x : tInstr} (h : eInstr.R w S es x) : es = [.int .i64 x.1, .int .i64 x.2.1, .int .i64 x.2.2.1, .int .i64 x.2.2.2] ∧ I64 x.1 ∧ I64 x.2.1 ∧ I64 x.2.2.1 ∧ I64 x.2.2.2 := by
  obtain ⟨_, _, rfl, ⟨rfl, h0⟩, ⟨_, _, rfl, ⟨rfl, h1⟩, ⟨_, _, rfl, ⟨rfl, h2⟩, ⟨rfl, h3⟩⟩⟩⟩ := h
  exact ⟨rfl, h0, h1, h2, h3⟩

theorem any_hit {α : Type} {p : α → Bool} {xs : List α} {k : Nat} (hk : k < xs.length) (h : p xs[k] = true) : xs.any p = true :=
  List.any_eq_true.2 ⟨_, List.getElem_mem hk, h⟩

theorem any_step {α : Type} {p : α → Bool} {xs : List α} {k : Nat} (hk : k < xs.length) (h0 : (xs.take k).any p = false) (h : p xs[k] = false) : (xs.take (k + 1)).any p = false := by
  rw [List.take_succ_eq_append_getElem hk, List.any_append, h0]; simp [h]

/-- Equality of two lists, element by element. -/
def eqL {α : Type} (p : α → α → Bool) : List α → List α → Bool
  | [], [] => true
  | x :: xs, y :: ys => p x y && eqL p xs ys
  | _, _ => false

theorem eqL_refl {α : Type} {p : α → α → Bool} (hp : ∀ x, p x x = true) : ∀ xs : List α, eqL p xs xs = true
  | [] => rfl
  | x :: xs => by rw [eqL, hp, eqL_refl hp xs]; rfl

theorem eqL_len {α : Type} {p : α → α → Bool} : ∀ (xs ys : List α), xs.length ≠ ys.length → eqL p xs ys = false
  | [], [], h => absurd rfl h
  | [], _ :: _, _ => rfl
  | _ :: _, [], _ => rfl
  | x :: xs, y :: ys, h => by rw [eqL, eqL_len xs ys (by simpa using h)]; simp

theorem eqL_get {α : Type} {p : α → α → Bool} : ∀ (xs ys : List α) (k : Nat) (h1 : k < xs.length) (h2 : k < ys.length), p xs[k] ys[k] = false → eqL p xs ys = false
  | x :: xs, y :: ys, 0, _, _, h => by rw [eqL]; simp at h; rw [h]; rfl
  | x :: xs, y :: ys, k + 1, h1, h2, h => by rw [eqL, eqL_get xs ys k (by simpa using h1) (by simpa using h2) (by simpa using h)]; simp

theorem eqL_all {α : Type} {p : α → α → Bool} : ∀ (xs ys : List α), xs.length = ys.length → (∀ k (h1 : k < xs.length) (h2 : k < ys.length), p xs[k] ys[k] = true) → eqL p xs ys = true
  | [], [], _, _ => rfl
  | x :: xs, y :: ys, hl, h => by
    have e : p x y = true := h 0 (Nat.zero_lt_succ _) (Nat.zero_lt_succ _)
    have e' : eqL p xs ys = true := eqL_all xs ys (by simpa using hl) fun k h1 h2 => h (k + 1) (Nat.succ_lt_succ h1) (Nat.succ_lt_succ h2)
    rw [eqL, e, e']; rfl
  | [], _ :: _, hl, _ => by simp at hl
  | _ :: _, [], hl, _ => by simp at hl

theorem ret_bool {a b : Bool} (h : a = b) : Ending.returned (.bool a) = .returned (.bool b) := by rw [h]

def withinB (n lo hi : Int) : Bool := decide (lo ≤ n) && decide (n ≤ hi)

theorem impl_within (n lo hi : Int) (w : World) :
    Calls Try.prog 72 #[.int .i64 n, .int .i64 lo, .int .i64 hi] w fun e w' => e = .returned (.bool (withinB n lo hi)) ∧ w = w' := by
  unfold withinB
  by_cases h1 : lo ≤ n
  · go_enter Try.func72, Try.ntmps72
    go_wp2
    go_ret
    exact ⟨by first | (simp; done) | simp [h1], rfl⟩
  · have h2 : decide (lo ≤ n) = false := by simpa using h1
    go_enter Try.func72, Try.ntmps72
    go_wp2
    go_ret
    exact ⟨by first | (simp; done) | simp [h2], rfl⟩

theorem spec_l00In (n lo hi : Int) (w : World) :
    Calls Try.prog 119 #[.int .i64 n, .int .i64 lo, .int .i64 hi] w fun e w' => e = .returned (.bool (withinB n lo hi)) ∧ w = w' := by
  unfold withinB
  by_cases h1 : lo ≤ n
  · go_enter Try.func119, Try.ntmps119
    go_wp2
    go_ret
    exact ⟨by first | (simp; done) | simp [h1], rfl⟩
  · have h2 : decide (lo ≤ n) = false := by simpa using h1
    go_enter Try.func119, Try.ntmps119
    go_wp2
    go_ret
    exact ⟨by first | (simp; done) | simp [h2], rfl⟩

theorem impl_size_Instr (a : Option Addr) (n c : Nat) (w : World) :
    Calls Try.prog 89 #[.slice a n c] w fun e w' => e = .returned (.int .i64 n) ∧ w = w' := by
  go_enter Try.func89, Try.ntmps89
  go_wp2
  go_ret
  exact ⟨rfl, rfl⟩

set_option maxHeartbeats 400000 in
theorem IndexFunc_Instr (p : tInstr → Bool) (g : Nat) (lb : Array Value) (A : Option Addr) (c : Nat) (xs : List tInstr) (w : World) (h : Sl eInstr w (Old w) A c xs)
    (eg : ∀ args w, (callFunc g args).run Try.prog w = .ok (.enter g args) w) (hp : ∀ W x es, x ∈ xs → Below w.heap.size w W → eInstr.R W (Old W) es x → Calls Try.prog g (#[.agg es.toArray] ++ lb) W fun e w' => e = .returned (.bool (p x)) ∧ Below W.heap.size W w') :
    Calls Try.prog 136 #[.slice A xs.length c, .func (.func g) #[] lb] w fun e w' => (∃ r : Int, e = .returned (.int .i64 r) ∧ decide (0 ≤ r) = xs.any p) ∧ Below w.heap.size w w' := by
  have hlen := h.len
  have H := Lib.hid h; clear h
  have HP := Lib.hid hp; clear hp
  go_enter Try.func136, Try.ntmps136
  go_wp2
  go_loopg [5, 8] xs.length (fun gg _ s8 wr => ∃ k : Nat, k ≤ xs.length ∧ xs.length - k ≤ gg ∧ s8 = .int .i64 k ∧ Hid (Below w.heap.size w wr) ∧ Hid ((xs.take k).any p = false))
  case atStart => exact ⟨0, Nat.zero_le _, by omega, rfl, Below.refl _ w, rfl⟩
  case round =>
    obtain ⟨k, hk, hg, rfl, BW, HN⟩ := hrel
    by_cases hlt : k < xs.length
    · have hltz : (k : Int) < (xs.length : Int) := by omega
      obtain ⟨b, off, es, rfl, hb, hR, hc⟩ := H.out.at hlt
      have hcall := HP.out wr xs[k] _ (List.getElem_mem hlt) BW.out (eInstr.on hR BW.out)
      obtain ⟨rfl, gq0, gq1, gq2, gq3⟩ := shape_Instr hR
      have d0 : wr.cell? ⟨b, off + k * 4, none⟩ = some (.int .i64 xs[k].1) := (below_olds BW.out _ hb).trans (hc 0 _ rfl)
      have d1 : wr.cell? ⟨b, off + k * 4 + 1, none⟩ = some (.int .i64 xs[k].2.1) := (below_olds BW.out _ hb).trans (hc 1 _ rfl)
      have d2 : wr.cell? ⟨b, off + k * 4 + 2, none⟩ = some (.int .i64 xs[k].2.2.1) := (below_olds BW.out _ hb).trans (hc 2 _ rfl)
      have d3 : wr.cell? ⟨b, off + k * 4 + 3, none⟩ = some (.int .i64 xs[k].2.2.2) := (below_olds BW.out _ hb).trans (hc 3 _ rfl)
      clear hc gq0 gq1 gq2 gq3
      try clear hR
      have HQ1 : Hid (p xs[k] = true → xs.any p = true) := any_hit hlt
      have HQ0 : Hid (p xs[k] = false → (xs.take (k + 1)).any p = false) := any_step hlt HN.out
      generalize xs[k] = y at d0 d1 d2 d3 hcall HQ1 HQ0
      cases hq : p y with
      | true =>
        rw [hq] at hcall
        have HQ := Lib.hid (HQ1.out hq); clear hq HQ1 HQ0
        go_wp2_with (go_at_fn g; refine hcall.mono ?_; rintro e w' ⟨rfl, hb'⟩)
        go_ret
        exact ⟨⟨k, rfl, by rw [HQ.out]; simp⟩, below_trans BW.out hb'⟩
      | false =>
        rw [hq] at hcall
        have HQ := Lib.hid (HQ0.out hq); clear hq HQ1 HQ0
        go_wp2_with (go_at_fn g; refine hcall.mono ?_; rintro e w' ⟨rfl, hb'⟩)
        go_roundg (xs.length - (k + 1))
        case measure => omega
        case rel => exact ⟨k + 1, by omega, by omega, by go_num, below_trans BW.out hb', HQ.out⟩
    · have hltz : ¬ (k : Int) < (xs.length : Int) := by omega
      obtain rfl : k = xs.length := by omega
      go_wp2
      go_ret
      refine ⟨⟨-1, rfl, ?_⟩, BW.out⟩
      have := HN.out
      rw [List.take_length] at this
      rw [this]; rfl

theorem ContainsFunc_Instr (p : tInstr → Bool) (g : Nat) (lb : Array Value) (A : Option Addr) (c : Nat) (xs : List tInstr) (w : World) (h : Sl eInstr w (Old w) A c xs)
    (eg : ∀ args w, (callFunc g args).run Try.prog w = .ok (.enter g args) w) (hp : ∀ W x es, x ∈ xs → Below w.heap.size w W → eInstr.R W (Old W) es x → Calls Try.prog g (#[.agg es.toArray] ++ lb) W fun e w' => e = .returned (.bool (p x)) ∧ Below W.heap.size W w') :
    Calls Try.prog 86 #[.slice A xs.length c, .func (.func g) #[] lb] w fun e w' => e = .returned (.bool (xs.any p)) ∧ Below w.heap.size w w' := by
  have hI := Lib.hid (IndexFunc_Instr p g lb A c xs w h eg hp); clear h hp eg
  go_enter Try.func86, Try.ntmps86
  go_wp2_with (go_at_call 136; refine hI.out.mono ?_; rintro e w' ⟨⟨r, rfl, hr⟩, hb⟩; have HR := Lib.hid hr; clear hr)
  go_ret
  exact ⟨by rw [← HR.out]; rfl, hb⟩

/-- What the size functions of the laws answer. -/
def left (l : Int) (n : Nat) : Int := if l - n < 0 then -1 else l - n

theorem left_neg {l : Int} {n : Nat} (h : l - n < 0) : left l n = -1 := if_pos h

theorem left_pos {l : Int} {n : Nat} (h : ¬ l - n < 0) : left l n = l - n := if_neg h

def cost_SInstr (xs : List tInstr) : Nat := xs.length

theorem sz_InstrS (A : Option Addr) (c : Nat) (xs : List tInstr) (l : Int) (w : World) (h : Sl eInstr w (Old w) A c xs) (h0 : 0 ≤ l) (h1 : l ≤ 1048576) :
    Calls Try.prog 25 #[.slice A xs.length c, .int .i64 l] w fun e w' => e = .returned (.int .i64 (left l (cost_SInstr xs))) ∧ Below w.heap.size w w' := by
  have hlen := h.len
  clear h
  unfold cost_SInstr
  by_cases hl : l - xs.length < 0
  · rw [left_neg hl]
    go_enter Try.func25, Try.ntmps25
    go_wp2
    go_ret
    exact ⟨rfl, Below.refl _ _⟩
  · rw [left_pos hl]
    go_enter Try.func25, Try.ntmps25
    go_wp2
    go_ret
    exact ⟨rfl, Below.refl _ _⟩

def eq_i (x y : Int) : Bool := x == y

theorem eq_i_refl (x : Int) : eq_i x x = true := by simp [eq_i]

def eq_Instr (x y : tInstr) : Bool := eq_i x.1 y.1 && eq_i x.2.1 y.2.1 && eq_i x.2.2.1 y.2.2.1 && eq_i x.2.2.2 y.2.2.2

theorem eq_Instr_refl (x : tInstr) : eq_Instr x x = true := by unfold eq_Instr; simp [eq_i_refl]

def eq_SInstr (x y : List tInstr) : Bool := eqL eq_Instr x y

theorem eq_SInstr_refl (x : List tInstr) : eq_SInstr x x = true := eqL_refl eq_Instr_refl x

set_option maxHeartbeats 1000000 in
theorem eq_Instr_c (es es' : List Value) (x y : tInstr) (w : World) (h : eInstr.R w (Old w) es x) (h' : eInstr.R w (Old w) es' y) :
    Calls Try.prog 90 #[.agg es.toArray, .agg es'.toArray] w fun e w' => e = .returned (.bool (eq_Instr x y)) ∧ Below w.heap.size w w' := by
  obtain ⟨rfl, gx0, gx1, gx2, gx3⟩ := shape_Instr h
  obtain ⟨rfl, gy0, gy1, gy2, gy3⟩ := shape_Instr h'
  have HB0 := Lib.hid (((Below.refl w.heap.size w).alloc (Nat.le_refl _) (.cells #[.int .i64 x.1, .int .i64 x.2.1, .int .i64 x.2.2.1, .int .i64 x.2.2.2] 114)).alloc (by simp) (.cells #[.int .i64 y.1, .int .i64 y.2.1, .int .i64 y.2.2.1, .int .i64 y.2.2.2] 114))
  clear gx0 gy0 gx1 gy1 gx2 gy2 gx3 gy3
  cases t0 : eq_i x.1 y.1
  · rw [show eq_Instr x y = false from by unfold eq_Instr; simp [t0]]
    have t0' : (x.1 != y.1) = true := by simp only [eq_i] at t0; simp [bne, t0]
    go_enter Try.func90, Try.ntmps90
    go_wp2
    go_ret
    exact ⟨rfl, HB0.out⟩
  have t0' : (x.1 != y.1) = false := by simp only [eq_i] at t0; simp [bne, t0]
  cases t1 : eq_i x.2.1 y.2.1
  · rw [show eq_Instr x y = false from by unfold eq_Instr; simp [t0, t1]]
    have t1' : (x.2.1 != y.2.1) = true := by simp only [eq_i] at t1; simp [bne, t1]
    go_enter Try.func90, Try.ntmps90
    go_wp2
    go_ret
    exact ⟨rfl, HB0.out⟩
  have t1' : (x.2.1 != y.2.1) = false := by simp only [eq_i] at t1; simp [bne, t1]
  cases t2 : eq_i x.2.2.1 y.2.2.1
  · rw [show eq_Instr x y = false from by unfold eq_Instr; simp [t0, t1, t2]]
    have t2' : (x.2.2.1 != y.2.2.1) = true := by simp only [eq_i] at t2; simp [bne, t2]
    go_enter Try.func90, Try.ntmps90
    go_wp2
    go_ret
    exact ⟨rfl, HB0.out⟩
  have t2' : (x.2.2.1 != y.2.2.1) = false := by simp only [eq_i] at t2; simp [bne, t2]
  cases t3 : eq_i x.2.2.2 y.2.2.2
  · rw [show eq_Instr x y = false from by unfold eq_Instr; simp [t0, t1, t2, t3]]
    have t3' : (x.2.2.2 != y.2.2.2) = true := by simp only [eq_i] at t3; simp [bne, t3]
    go_enter Try.func90, Try.ntmps90
    go_wp2
    go_ret
    exact ⟨rfl, HB0.out⟩
  have t3' : (x.2.2.2 != y.2.2.2) = false := by simp only [eq_i] at t3; simp [bne, t3]
  rw [show eq_Instr x y = true from by unfold eq_Instr; simp [t0, t1, t2, t3]]
  go_enter Try.func90, Try.ntmps90
  go_wp2
  go_ret
  exact ⟨rfl, HB0.out⟩

set_option maxRecDepth 100000 in
set_option maxHeartbeats 1000000 in
theorem eq_SInstr_c (A A' : Option Addr) (c c' : Nat) (xs ys : List tInstr) (w : World) (h : Sl eInstr w (Old w) A c xs) (h' : Sl eInstr w (Old w) A' c' ys) :
    Calls Try.prog 29 #[.slice A xs.length c, .slice A' ys.length c'] w fun e w' => e = .returned (.bool (eq_SInstr xs ys)) ∧ Below w.heap.size w w' := by
  have hlen := h.len
  have hlen' := h'.len
  unfold eq_SInstr
  by_cases hne : xs.length = ys.length
  · have hne' : ((xs.length : Int) != (ys.length : Int)) = false := by simp [hne]
    have HE := Lib.hid hne; clear hne
    have H := Lib.hid h; clear h
    have H' := Lib.hid h'; clear h'
    go_enter Try.func29, Try.ntmps29
    go_wp2
    clear hne'
    go_loopw [5] (fun s5 wr => ∃ k : Nat, k ≤ xs.length ∧ s5 = .int .i64 k ∧ Hid (Below w.heap.size w wr) ∧ Hid (∀ j (h1 : j < xs.length) (h2 : j < ys.length), j < k → eq_Instr xs[j] ys[j] = true)) (fun s5 _ => xs.length - (intOf s5).toNat)
    case atStart => exact ⟨0, Nat.zero_le _, rfl, Below.refl _ _, fun j _ _ h => absurd h (Nat.not_lt_zero _)⟩
    case round =>
      obtain ⟨k, hk, rfl, HL, HN⟩ := hrel
      by_cases hlt : k < xs.length
      · have hltz : (k : Int) < (xs.length : Int) := by omega
        have hlt' : k < ys.length := by have := HE.out; omega
        have hltz' : (k : Int) < (ys.length : Int) := by omega
        obtain ⟨bp, offp, esp, rfl, hbp, hR, hc⟩ := H.out.at hlt
        have HRp := Lib.hid (eInstr.on hR HL.out)
        obtain ⟨rfl, gp0, gp1, gp2, gp3⟩ := shape_Instr hR
        have dp0 : wr.cell? ⟨bp, offp + k * 4, none⟩ = some (.int .i64 xs[k].1) := (below_olds HL.out _ hbp).trans (hc 0 _ rfl)
        have dp1 : wr.cell? ⟨bp, offp + k * 4 + 1, none⟩ = some (.int .i64 xs[k].2.1) := (below_olds HL.out _ hbp).trans (hc 1 _ rfl)
        have dp2 : wr.cell? ⟨bp, offp + k * 4 + 2, none⟩ = some (.int .i64 xs[k].2.2.1) := (below_olds HL.out _ hbp).trans (hc 2 _ rfl)
        have dp3 : wr.cell? ⟨bp, offp + k * 4 + 3, none⟩ = some (.int .i64 xs[k].2.2.2) := (below_olds HL.out _ hbp).trans (hc 3 _ rfl)
        clear hc gp0 gp1 gp2 gp3
        try clear hR
        obtain ⟨bq, offq, esq, rfl, hbq, hR, hc⟩ := H'.out.at hlt'
        have HRq := Lib.hid (eInstr.on hR HL.out)
        obtain ⟨rfl, gq0, gq1, gq2, gq3⟩ := shape_Instr hR
        have dq0 : wr.cell? ⟨bq, offq + k * 4, none⟩ = some (.int .i64 ys[k].1) := (below_olds HL.out _ hbq).trans (hc 0 _ rfl)
        have dq1 : wr.cell? ⟨bq, offq + k * 4 + 1, none⟩ = some (.int .i64 ys[k].2.1) := (below_olds HL.out _ hbq).trans (hc 1 _ rfl)
        have dq2 : wr.cell? ⟨bq, offq + k * 4 + 2, none⟩ = some (.int .i64 ys[k].2.2.1) := (below_olds HL.out _ hbq).trans (hc 2 _ rfl)
        have dq3 : wr.cell? ⟨bq, offq + k * 4 + 3, none⟩ = some (.int .i64 ys[k].2.2.2) := (below_olds HL.out _ hbq).trans (hc 3 _ rfl)
        clear hc gq0 gq1 gq2 gq3
        try clear hR
        have HQ0 : Hid (eq_Instr xs[k] ys[k] = false → eqL eq_Instr xs ys = false) := eqL_get xs ys k hlt hlt'
        have HQ1 : Hid (eq_Instr xs[k] ys[k] = true → ∀ j (h1 : j < xs.length) (h2 : j < ys.length), j < k + 1 → eq_Instr xs[j] ys[j] = true) := fun e j h1 h2 hj => by
          by_cases ej : j = k
          · subst ej; exact e
          · exact HN.out j h1 h2 (by omega)
        generalize xs[k] = x at dp0 dp1 dp2 dp3 HRp HQ0 HQ1
        generalize ys[k] = y at dq0 dq1 dq2 dq3 HRq HQ0 HQ1
        go_wp2_with fail
        go_still_tail 8, (by kernel_rfl)
        cases hq : eq_Instr x y
        · go_wp2_with fail
          refine (eq_Instr_c _ _ x y _ (eInstr.on HRp.out (Below.refl _ _).drew) (eInstr.on HRq.out (Below.refl _ _).drew)).mono ?_
          rintro e w2 ⟨rfl, hb2⟩
          rw [hq]
          go_wp2
          go_ret
          exact ⟨by rw [HQ0.out hq]; rfl, HL.out.drew.trans (hb2.mono HL.out.size)⟩
        · go_wp2_with fail
          refine (eq_Instr_c _ _ x y _ (eInstr.on HRp.out (Below.refl _ _).drew) (eInstr.on HRq.out (Below.refl _ _).drew)).mono ?_
          rintro e w2 ⟨rfl, hb2⟩
          rw [hq]
          go_wp2
          go_roundw
          case rel => exact ⟨k + 1, by omega, by go_num, HL.out.drew.trans (hb2.mono HL.out.size), HQ1.out hq⟩
          case measure => simp [intOf]; omega
      · have hltz : ¬ (k : Int) < (xs.length : Int) := by omega
        obtain rfl : k = xs.length := by omega
        go_wp2
        go_ret
        exact ⟨by rw [eqL_all xs ys HE.out fun j h1 h2 => HN.out j h1 h2 h1]; rfl, HL.out⟩
  · have hne' : ((xs.length : Int) != (ys.length : Int)) = true := by simp; omega
    rw [eqL_len xs ys hne]
    clear h h' hne
    go_enter Try.func29, Try.ntmps29
    go_wp2
    go_ret
    exact ⟨rfl, Below.refl _ _⟩

theorem info_impl_Instr : (Try.prog.info? 114).map (fun i => (i.zero, i.size, i.bytes)) = some (some (.agg #[.int .i64 0, .int .i64 0, .int .i64 0, .int .i64 0]), 4, 32) := by kernel_rfl

theorem to_Instr (es : List Value) (x : tInstr) (w : World) (h : eInstr.R w (Old w) es x) :
    Calls Try.prog 85 #[.agg es.toArray] w fun e w' => ∃ es', e = .returned (.agg es'.toArray) ∧ eInstr.O w' (Fr w w') es' x ∧ Below w.heap.size w w' := by
  obtain ⟨rfl, g0, g1, g2, g3⟩ := shape_Instr h
  go_enter Try.func85, Try.ntmps85
  go_wp2
  go_returns
  exact ⟨[.int .i64 x.1, .int .i64 x.2.1, .int .i64 x.2.2.1, .int .i64 x.2.2.2], rfl, (oPrI g0 (oPrI g1 (oPrI g2 (oI g3)))), by go_grown⟩

set_option maxHeartbeats 1000000 in
theorem to_InstrS (A : Option Addr) (c : Nat) (xs : List tInstr) (w : World) (h : Sl eInstr w (Old w) A c xs) (hsm : cost_SInstr xs ≤ 1048576) :
    Calls Try.prog 27 #[.slice A xs.length c] w fun e w' => ∃ A' c', e = .returned (.slice A' xs.length c') ∧ So eInstr w' (Fr w w') A' c' xs ∧ Below w.heap.size w w' := by
  obtain ⟨i0, hi0, hz0, hz1, hz2⟩ := info_parts info_impl_Instr
  have hlen := h.len
  have hsl : xs.length ≤ 1048576 := by exact hsm
  have HCO := Lib.hid hsm; clear hsm
  have H := Lib.hid h; clear h
  go_enter Try.func27, Try.ntmps27
  go_wp2_with (at_make; refine wpList_make_full _ rfl _ _ 40 rfl w.heap.size 114 i0 _ 4 Try.underlying40 hi0 hz0 hz1 _ _ _ _ xs.length rfl rfl rfl rfl (by rw [hz2]; omega) (by unfold maxLen; omega) (Nat.le_refl _) ?_)
  intro w1 hown hgrow
  obtain ⟨cur, hB, hs, ht, hn1, hn2⟩ := Blk.of_own hown
  have HB := Lib.hid hB; clear hB
  have HS : Hid (cur.size = xs.length * 4) := by show _ = _; omega
  have hbel : Below w.heap.size w w1 := (Below.refl _ _).grown hgrow (Nat.le_refl _) (by simp)
  have HL := Lib.hid hbel; clear hbel
  clear hs ht hn1 hn2 hgrow hown hi0 hz0 hz1 hz2
  go_wp2_with fail
  go_loopw [4] (fun s4 wr => ∃ (k : Nat) (cur : Array Value), k ≤ xs.length ∧ s4 = .int .i64 k ∧ Hid (Below w.heap.size w wr) ∧ Hid (Blk wr w.heap.size 114 cur) ∧ Hid (cur.size = xs.length * 4) ∧ Hid (Filled eInstr wr w.heap.size (fun b => w.heap.size ≤ b) cur k xs)) (fun s4 _ => xs.length - (intOf s4).toNat)
  case atStart => exact ⟨0, cur, Nat.zero_le _, rfl, HL, HB, HS, Filled.zero⟩
  case round =>
    clear HB HS HL
    obtain ⟨k, cur, hk, rfl, HL, HB, HS, HF⟩ := hrel
    by_cases hlt : k < xs.length
    · have hltz : (k : Int) < (xs.length : Int) := by omega
      obtain ⟨b, off, es, rfl, hb, hR, hc⟩ := H.out.at hlt
      have HX : Hid (xs[k]? = some xs[k]) := List.getElem?_eq_getElem hlt
      have HR := Lib.hid (eInstr.on hR HL.out)
      obtain ⟨rfl, gq0, gq1, gq2, gq3⟩ := shape_Instr hR
      have d0 : wr.cell? ⟨b, off + k * 4, none⟩ = some (.int .i64 xs[k].1) := (below_olds HL.out _ hb).trans (hc 0 _ rfl)
      have d1 : wr.cell? ⟨b, off + k * 4 + 1, none⟩ = some (.int .i64 xs[k].2.1) := (below_olds HL.out _ hb).trans (hc 1 _ rfl)
      have d2 : wr.cell? ⟨b, off + k * 4 + 2, none⟩ = some (.int .i64 xs[k].2.2.1) := (below_olds HL.out _ hb).trans (hc 2 _ rfl)
      have d3 : wr.cell? ⟨b, off + k * 4 + 3, none⟩ = some (.int .i64 xs[k].2.2.2) := (below_olds HL.out _ hb).trans (hc 3 _ rfl)
      clear hc gq0 gq1 gq2 gq3
      try clear hR
      obtain ⟨v0, hv0⟩ : ∃ v, cur[k * 4]? = some v := get_some (by have := HS.out; omega)
      obtain ⟨v1, hv1⟩ : ∃ v, cur[k * 4 + 1]? = some v := get_some (by have := HS.out; omega)
      obtain ⟨v2, hv2⟩ : ∃ v, cur[k * 4 + 2]? = some v := get_some (by have := HS.out; omega)
      obtain ⟨v3, hv3⟩ : ∃ v, cur[k * 4 + 3]? = some v := get_some (by have := HS.out; omega)
      have HV0 := Lib.hid hv0; clear hv0
      have HV1 := Lib.hid hv1; clear hv1
      have HV2 := Lib.hid hv2; clear hv2
      have HV3 := Lib.hid hv3; clear hv3
      generalize xs[k] = y at d0 d1 d2 d3 HX HR
      go_wp2_with fail
      refine (to_Instr _ y _ HR.out).mono ?_
      rintro e w2 ⟨es2, rfl, ho2, hb2⟩
      have hR2 := eInstr.read ho2
      have HO2 := Lib.hid ho2; clear ho2
      obtain ⟨rfl, gr0, gr1, gr2, gr3⟩ := shape_Instr hR2
      clear gr0 gr1 gr2 gr3
      try clear hR2
      have hB2 := HB.out.on hb2
      have e0 : w2.cell? ⟨w.heap.size, k * 4, none⟩ = some v0 := (hB2.cell _).trans HV0.out
      have e1 : w2.cell? ⟨w.heap.size, k * 4 + 1, none⟩ = some v1 := (hB2.cell _).trans HV1.out
      have e2 : w2.cell? ⟨w.heap.size, k * 4 + 2, none⟩ = some v2 := (hB2.cell _).trans HV2.out
      have e3 : w2.cell? ⟨w.heap.size, k * 4 + 3, none⟩ = some v3 := (hB2.cell _).trans HV3.out
      have f0 := hB2.frozen (k * 4)
      have f1 := hB2.frozen (k * 4 + 1)
      have f2 := hB2.frozen (k * 4 + 2)
      have f3 := hB2.frozen (k * 4 + 3)
      have HB2 := Lib.hid hB2; clear hB2
      have HL2 := Lib.hid hb2; clear hb2
      go_wp2
      go_roundw
      case rel =>
        have hL := HL.out
        have hL2 := HL2.out
        have hbs : ∀ b, b ≠ w.heap.size → ∀ W : World, (∀ b, b ≠ w.heap.size → W.heap[b]? = w2.heap[b]?) → W.heap[b]? = w2.heap[b]? := fun b hb W h => h b hb
        have hW : ∀ b, b ≠ w.heap.size → ((((w2.setCell ⟨w.heap.size, k * 4, none⟩ (.int .i64 y.1)).setCell ⟨w.heap.size, k * 4 + 1, none⟩ (.int .i64 y.2.1)).setCell ⟨w.heap.size, k * 4 + 2, none⟩ (.int .i64 y.2.2.1)).setCell ⟨w.heap.size, k * 4 + 3, none⟩ (.int .i64 y.2.2.2)).heap[b]? = w2.heap[b]? := fun b hb => by
          rw [Below.heap_setCell _ _ _ _ (by exact hb), Below.heap_setCell _ _ _ _ (by exact hb), Below.heap_setCell _ _ _ _ (by exact hb), Below.heap_setCell _ _ _ _ (by exact hb)]
        have hsz : ((((w2.setCell ⟨w.heap.size, k * 4, none⟩ (.int .i64 y.1)).setCell ⟨w.heap.size, k * 4 + 1, none⟩ (.int .i64 y.2.1)).setCell ⟨w.heap.size, k * 4 + 2, none⟩ (.int .i64 y.2.2.1)).setCell ⟨w.heap.size, k * 4 + 3, none⟩ (.int .i64 y.2.2.2)).heap.size = w2.heap.size := by simp [World.setCell]
        refine ⟨k + 1, setAll cur (k * 4) [.int .i64 y.1, .int .i64 y.2.1, .int .i64 y.2.2.1, .int .i64 y.2.2.2], by omega, by go_num, (((((hL.trans (hL2.mono hL.size)).setCell (Nat.le_refl _) _).setCell (Nat.le_refl _) _).setCell (Nat.le_refl _) _).setCell (Nat.le_refl _) _), ((((HB2.out.set _ _).set _ _).set _ _).set _ _), (size_setAll _ _ _).trans HS.out, ?_⟩
        have hstep := (HF.out).step (w' := (((w2.setCell ⟨w.heap.size, k * 4, none⟩ (.int .i64 y.1)).setCell ⟨w.heap.size, k * 4 + 1, none⟩ (.int .i64 y.2.1)).setCell ⟨w.heap.size, k * 4 + 2, none⟩ (.int .i64 y.2.2.1)).setCell ⟨w.heap.size, k * 4 + 3, none⟩ (.int .i64 y.2.2.2)) (T0 := Fr wr w2) (es := [.int .i64 y.1, .int .i64 y.2.1, .int .i64 y.2.2.1, .int .i64 y.2.2.2]) (fun b hb hlt => (hW b hb).trans (hL2.block b hlt)) (by rw [hsz]; exact hL2.size) HX.out
          (eInstr.okeep HO2.out fun b hb => hW b (fun e => by have := HB.out.lt; have := hb.1; omega)) (fun b hb => ⟨Nat.le_trans hL.size hb.1, fun e => by have := HB.out.lt; have := hb.1; omega, hb.1, by rw [hsz]; exact hb.2⟩) (by have := HS.out; show (k + 1) * 4 ≤ _; omega)
        exact hstep
      case measure => simp [intOf]; omega
    · have hltz : ¬ (k : Int) < (xs.length : Int) := by omega
      obtain rfl : k = xs.length := by omega
      go_wp2
      go_ret
      exact ⟨_, _, rfl, HF.out.soFr HB.out (Nat.le_refl _) (by unfold maxLen; omega), HL.out⟩

def isReg (r : Int) : Bool := withinB r 0 23

def validInstr (x : tInstr) (n : Int) : Bool :=
  isReg x.2.1 && withinB x.2.2.1 0 n && (if x.1 = 0 then x.2.2.2 == 0 else if x.1 = 1 then withinB x.2.2.2 0 n else false)

theorem impl_isRegister (r : Int) (w : World) : Calls Try.prog 137 #[.int .i64 r] w fun e w' => e = .returned (.bool (isReg r)) ∧ w = w' := by
  unfold isReg
  go_enter Try.func137, Try.ntmps137
  go_wp2_with (go_at_call 72; refine (impl_within _ _ _ _).mono ?_; rintro e w' ⟨rfl, rfl⟩)
  go_ret
  exact ⟨rfl, rfl⟩

theorem spec_l07Register (r : Int) (w : World) : Calls Try.prog 135 #[.int .i64 r] w fun e w' => e = .returned (.bool (isReg r)) ∧ w = w' := by
  unfold isReg
  go_enter Try.func135, Try.ntmps135
  go_wp2_with (go_at_call 119; refine (spec_l00In _ _ _ _).mono ?_; rintro e w' ⟨rfl, rfl⟩)
  go_ret
  exact ⟨rfl, rfl⟩

set_option maxHeartbeats 400000 in
theorem impl_validInstr (x : tInstr) (n : Int) (w : World) :
    Calls Try.prog 88 #[.agg #[.int .i64 x.1, .int .i64 x.2.1, .int .i64 x.2.2.1, .int .i64 x.2.2.2], .int .i64 n] w fun e w' => e = .returned (.bool (validInstr x n)) ∧ Below w.heap.size w w' := by
  obtain ⟨kd, r, t, el⟩ := x
  cases h1 : isReg r
  · rw [show validInstr (kd, r, t, el) n = false from by unfold validInstr; simp [h1]]
    go_enter Try.func88, Try.ntmps88
    go_wp2_with (first | (go_at_call 137; refine (impl_isRegister _ _).mono ?_; rintro e w' ⟨rfl, rfl⟩; rw [h1]) | (go_at_call 72; refine (impl_within _ _ _ _).mono ?_; rintro e w' ⟨rfl, rfl⟩; (try rw [h2])))
    go_ret
    exact ⟨rfl, by go_grown⟩
  cases h2 : withinB t 0 n
  · rw [show validInstr (kd, r, t, el) n = false from by unfold validInstr; simp [h1, h2]]
    go_enter Try.func88, Try.ntmps88
    go_wp2_with (first | (go_at_call 137; refine (impl_isRegister _ _).mono ?_; rintro e w' ⟨rfl, rfl⟩; rw [h1]) | (go_at_call 72; refine (impl_within _ _ _ _).mono ?_; rintro e w' ⟨rfl, rfl⟩; (try rw [h2])))
    go_ret
    exact ⟨rfl, by go_grown⟩
  by_cases k0 : kd = 0
  · have k0' : (kd == 0) = true := by simp [k0]
    rw [show validInstr (kd, r, t, el) n = (el == 0) from by unfold validInstr; simp [h1, h2, k0]]
    go_enter Try.func88, Try.ntmps88
    go_wp2_with (first | (go_at_call 137; refine (impl_isRegister _ _).mono ?_; rintro e w' ⟨rfl, rfl⟩; rw [h1]) | (go_at_call 72; refine (impl_within _ _ _ _).mono ?_; rintro e w' ⟨rfl, rfl⟩; (try rw [h2])))
    go_ret
    exact ⟨rfl, by go_grown⟩
  have k0' : (kd == 0) = false := by simp [k0]
  by_cases k1 : kd = 1
  · have k1' : (kd == 1) = true := by simp [k1]
    rw [show validInstr (kd, r, t, el) n = withinB el 0 n from by unfold validInstr; simp [h1, h2, k1]]
    go_enter Try.func88, Try.ntmps88
    go_wp2_with (first | (go_at_call 137; refine (impl_isRegister _ _).mono ?_; rintro e w' ⟨rfl, rfl⟩; rw [h1]) | (go_at_call 72; refine (impl_within _ _ _ _).mono ?_; rintro e w' ⟨rfl, rfl⟩; (try rw [h2])))
    go_ret
    exact ⟨rfl, by go_grown⟩
  have k1' : (kd == 1) = false := by simp [k1]
  rw [show validInstr (kd, r, t, el) n = false from by unfold validInstr; simp [h1, h2, k0, k1]]
  go_enter Try.func88, Try.ntmps88
  go_wp2_with (first | (go_at_call 137; refine (impl_isRegister _ _).mono ?_; rintro e w' ⟨rfl, rfl⟩; rw [h1]) | (go_at_call 72; refine (impl_within _ _ _ _).mono ?_; rintro e w' ⟨rfl, rfl⟩; (try rw [h2])))
  go_ret
  exact ⟨rfl, by go_grown⟩

theorem enters_ValidProgram1 : ∀ args w, (callFunc 87 args).run Try.prog w = .ok (.enter 87 args) w := enters_of Try.func87 (by kernel_rfl) rfl

theorem impl_ValidProgram1 (es : List Value) (x : tInstr) (w : World) (h : eInstr.R w (Old w) es x) (B : Nat) (A : Option Addr) (n c : Nat) (hB : w.cell? ⟨B, 0, none⟩ = some (.slice A n c)) :
    Calls Try.prog 87 #[.agg es.toArray, .pointer (some ⟨B, 0, none⟩)] w fun e w' => e = .returned (.bool (!validInstr x n)) ∧ Below w.heap.size w w' := by
  obtain ⟨rfl, _, _, _, _⟩ := shape_Instr h
  clear h
  have hlt : B < w.heap.size := World.block_lt_of_cell? w _ hB
  go_enter Try.func87, Try.ntmps87
  go_wp2_with fail
  go_region_held3 (fun w' => w'.cell? ⟨w.heap.size, 0, none⟩ = some (.int .i64 x.1) ∧ w'.cell? ⟨w.heap.size, 1, none⟩ = some (.int .i64 x.2.1) ∧ w'.cell? ⟨w.heap.size, 2, none⟩ = some (.int .i64 x.2.2.1) ∧ w'.cell? ⟨w.heap.size, 3, none⟩ = some (.int .i64 x.2.2.2) ∧ w'.cell? ⟨B, 0, none⟩ = some (.slice A n c)) (first | (simp [go_sem, World.cell?_alloc_past, hB, hlt]; done) | (obtain ⟨hc, hf⟩ := bcell hb; simp [hc, go_sem, World.cell?_alloc_past, hB, hlt, Nat.lt_succ_of_lt hlt]))
    (first
      | (go_at_call 89; refine (impl_size_Instr _ _ _ _).mono ?_; rintro e w' ⟨rfl, rfl⟩)
      | (go_at_call 88; refine (impl_validInstr x _ _).mono ?_; rintro e w' ⟨rfl, hb⟩))
  go_wp2
  go_ret
  exact ⟨rfl, below_trans ((Below.refl _ _).alloc (Nat.le_refl _) _).drew hb⟩

def validProg (p : List tInstr) : Bool := decide (p.length ≤ 400) && !p.any fun x => !validInstr x p.length

set_option maxHeartbeats 400000 in
theorem impl_ValidProgram (A : Option Addr) (c : Nat) (xs : List tInstr) (w : World) (h : Sl eInstr w (Old w) A c xs) :
    Calls Try.prog 28 #[.slice A xs.length c] w fun e w' => e = .returned (.bool (validProg xs)) ∧ Below w.heap.size w w' := by
  have hW : Below w.heap.size w (w.alloc (.cells #[.slice A xs.length c] 40)) := (Below.refl _ _).alloc (Nat.le_refl _) _
  have hI := Lib.hid (ContainsFunc_Instr (fun x => !validInstr x xs.length) 87 #[.pointer (some ⟨w.heap.size, 0, none⟩)] A c xs _ (h.on hW) enters_ValidProgram1 (fun W x es _ hb hR => impl_ValidProgram1 es x W hR w.heap.size A xs.length c (by
    rw [hb.cell (p := ⟨w.heap.size, 0, none⟩) (by simp)]; simp [go_sem])))
  have HW := Lib.hid hW; clear hW h
  by_cases h1 : xs.length ≤ 400
  · have h1' : decide ((xs.length : Int) ≤ 400) = true := by simp; omega
    rw [show validProg xs = !xs.any (fun x => !validInstr x xs.length) from by unfold validProg; simp [h1]]
    go_enter Try.func28, Try.ntmps28
    go_wp2_with (go_at_call 86; refine hI.out.mono ?_; rintro e w' ⟨rfl, hb⟩)
    go_ret
    exact ⟨rfl, below_trans HW.out hb⟩
  · have h1' : decide ((xs.length : Int) ≤ 400) = false := by simp; omega
    rw [show validProg xs = false from by unfold validProg; simp [h1]]
    go_enter Try.func28, Try.ntmps28
    go_wp2_with fail
    go_ret
    exact ⟨rfl, HW.out⟩

theorem validInstr_eq (kd r t el : Int) (n : Nat) : validInstr (kd, r, t, el) n = (isReg r && withinB t 0 n && ((kd == 0 || kd == 1) && (kd != 0 || el == 0) && withinB el 0 n)) := by
  unfold validInstr
  by_cases k0 : kd = 0
  · subst k0
    by_cases e0 : el = 0
    · subst e0; simp [withinB]
    · have e0' : (el == 0) = false := by simp [e0]
      simp [e0']
  · by_cases k1 : kd = 1
    · subst k1; simp
    · simp [k0, k1]

def badProg (p : List tInstr) (x : tInstr) : Bool := !validInstr x p.length

theorem validProg_eq (p : List tInstr) : validProg p = (!p.any (badProg p) && decide (p.length ≤ 400)) := by
  unfold validProg badProg; rw [Bool.and_comm]

set_option maxHeartbeats 1000000 in
theorem spec_l07Is (A : Option Addr) (c : Nat) (xs : List tInstr) (w : World) (h : Sl eInstr w (Old w) A c xs) :
    Calls Try.prog 84 #[.slice A xs.length c] w fun e w' => e = .returned (.bool (validProg xs)) ∧ Below w.heap.size w w' := by
  have hlen := h.len
  have H := Lib.hid h; clear h
  have HV := Lib.hid (validProg_eq xs)
  go_enter Try.func84, Try.ntmps84
  go_wp2
  go_loopw [4] (fun s4 wr => ∃ k : Nat, k ≤ xs.length ∧ s4 = .int .i64 k ∧ Hid ((xs.take k).any (badProg xs) = false) ∧ Hid (Below w.heap.size w wr)) (fun s4 _ => xs.length - (intOf s4).toNat)
  case atStart => exact ⟨0, Nat.zero_le _, rfl, rfl, Below.refl _ w⟩
  case round =>
    obtain ⟨k, hk, rfl, HN, BW⟩ := hrel
    by_cases hlt : k < xs.length
    · have hltz : (k : Int) < (xs.length : Int) := by omega
      obtain ⟨b, off, es, rfl, hb, hR, hc⟩ := H.out.at hlt
      obtain ⟨rfl, _, _, _, _⟩ := shape_Instr hR
      have d0 : wr.cell? ⟨b, off + k * 4, none⟩ = some (.int .i64 xs[k].1) := (below_olds BW.out _ hb).trans (hc 0 _ rfl)
      have d1 : wr.cell? ⟨b, off + k * 4 + 1, none⟩ = some (.int .i64 xs[k].2.1) := (below_olds BW.out _ hb).trans (hc 1 _ rfl)
      have d2 : wr.cell? ⟨b, off + k * 4 + 2, none⟩ = some (.int .i64 xs[k].2.2.1) := (below_olds BW.out _ hb).trans (hc 2 _ rfl)
      have d3 : wr.cell? ⟨b, off + k * 4 + 3, none⟩ = some (.int .i64 xs[k].2.2.2) := (below_olds BW.out _ hb).trans (hc 3 _ rfl)
      clear hc hR
      have HT : Hid (badProg xs xs[k] = true → validProg xs = false) := fun e => by rw [HV.out, any_hit hlt e]; rfl
      have HS : Hid (badProg xs xs[k] = false → (xs.take (k + 1)).any (badProg xs) = false) := fun e => any_step hlt HN.out e
      generalize xs[k] = y at d0 d1 d2 d3 HT HS
      obtain ⟨kd, r, t, el⟩ := y
      have HE : Hid (badProg xs (kd, r, t, el) = !(isReg r && withinB t 0 xs.length && ((kd == 0 || kd == 1) && (kd != 0 || el == 0) && withinB el 0 xs.length))) := by show _ = _; unfold badProg; rw [validInstr_eq]
      have HBW : Hid (∀ o, Below w.heap.size w (wr.alloc o)) := fun o => below_alloc BW.out o
      cases q1 : isReg r
      · go_wp2_with (go_at_call 135; refine (spec_l07Register _ _).mono ?_; rintro e w' ⟨rfl, rfl⟩; rw [q1])
        go_ret
        exact ⟨by rw [HT.out (by rw [HE.out, q1]; simp)]; rfl, HBW.out _⟩
      cases q2 : withinB t 0 xs.length
      · go_wp2_with (first | (go_at_call 135; refine (spec_l07Register _ _).mono ?_; rintro e w' ⟨rfl, rfl⟩; rw [q1]) | (go_at_call 119; refine (spec_l00In _ _ _ _).mono ?_; rintro e w' ⟨rfl, rfl⟩; rw [q2]))
        go_ret
        exact ⟨by rw [HT.out (by rw [HE.out, q2]; simp)]; rfl, HBW.out _⟩
      by_cases k0 : kd = 0
      · subst k0
        by_cases e0 : el = 0
        · subst e0
          cases q3 : withinB 0 0 xs.length
          · exfalso; simp [withinB] at q3
          have hF := HS.out (by rw [HE.out, q1, q2, q3]; simp)
          have HF := Lib.hid hF; clear hF
          go_wp2_with (first | (go_at_call 135; refine (spec_l07Register _ _).mono ?_; rintro e w' ⟨rfl, rfl⟩; rw [q1]) | (go_at_call 119; refine (spec_l00In _ _ _ _).mono ?_; rintro e w' ⟨rfl, rfl⟩; first | rw [q2] | rw [q3]))
          go_roundw
          case rel => exact ⟨k + 1, by omega, by go_num, HF.out, HBW.out _⟩
          case measure => simp [intOf]; omega
        · have e0' : (el != 0) = true := by simp [e0]
          have hF := HT.out (by rw [HE.out]; simp [e0])
          have HF := Lib.hid hF; clear hF
          go_wp2_with (first | (go_at_call 135; refine (spec_l07Register _ _).mono ?_; rintro e w' ⟨rfl, rfl⟩; rw [q1]) | (go_at_call 119; refine (spec_l00In _ _ _ _).mono ?_; rintro e w' ⟨rfl, rfl⟩; rw [q2]))
          go_ret
          exact ⟨by rw [HF.out]; rfl, HBW.out _⟩
      have k0a : (kd != 0) = true := by simp [k0]
      have k0b : (kd == 0) = false := by simp [k0]
      by_cases k1 : kd = 1
      · subst k1
        cases q3 : withinB el 0 xs.length
        · have hF := HT.out (by rw [HE.out, q3]; simp)
          have HF := Lib.hid hF; clear hF
          go_wp2_with (first | (go_at_call 135; refine (spec_l07Register _ _).mono ?_; rintro e w' ⟨rfl, rfl⟩; rw [q1]) | (go_at_call 119; refine (spec_l00In _ _ _ _).mono ?_; rintro e w' ⟨rfl, rfl⟩; first | rw [q2] | rw [q3]))
          go_ret
          exact ⟨by rw [HF.out]; rfl, HBW.out _⟩
        · have hF := HS.out (by rw [HE.out, q1, q2, q3]; simp)
          have HF := Lib.hid hF; clear hF
          go_wp2_with (first | (go_at_call 135; refine (spec_l07Register _ _).mono ?_; rintro e w' ⟨rfl, rfl⟩; rw [q1]) | (go_at_call 119; refine (spec_l00In _ _ _ _).mono ?_; rintro e w' ⟨rfl, rfl⟩; first | rw [q2] | rw [q3]))
          go_roundw
          case rel => exact ⟨k + 1, by omega, by go_num, HF.out, HBW.out _⟩
          case measure => simp [intOf]; omega
      have k1a : (kd != 1) = true := by simp [k1]
      have hF := HT.out (by rw [HE.out]; simp [k0, k1])
      have HF := Lib.hid hF; clear hF
      go_wp2_with (first | (go_at_call 135; refine (spec_l07Register _ _).mono ?_; rintro e w' ⟨rfl, rfl⟩; rw [q1]) | (go_at_call 119; refine (spec_l00In _ _ _ _).mono ?_; rintro e w' ⟨rfl, rfl⟩; rw [q2]))
      go_ret
      exact ⟨by rw [HF.out]; rfl, HBW.out _⟩
    · have hltz : ¬ (k : Int) < (xs.length : Int) := by omega
      obtain rfl : k = xs.length := by omega
      go_wp2
      go_ret
      have hn := HN.out
      rw [List.take_length] at hn
      exact ⟨ret_bool (by rw [HV.out, hn]; simp; omega), BW.out⟩

theorem spec_ValidProgram (A : Option Addr) (c : Nat) (xs : List tInstr) (w : World) (h : Sl eInstr w (Old w) A c xs) :
    Calls Try.prog 26 #[.slice A xs.length c] w fun e w' => e = .returned (.bool (validProg xs)) ∧ Below w.heap.size w w' := by
  have hI := Lib.hid (spec_l07Is A c xs w h); clear h
  go_enter Try.func26, Try.ntmps26
  go_wp2_with (go_at_call 84; refine hI.out.mono ?_; rintro e w' ⟨rfl, hb⟩)
  go_ret
  exact ⟨rfl, hb⟩

set_option maxHeartbeats 1000000 in
theorem law_ValidProgram (A0 : Option Addr) (c0 : Nat) (a0 : (List tInstr)) (w : World) (h0 : Sl eInstr w (Old w) A0 c0 a0) :
    Calls Try.prog 5 #[.slice A0 a0.length c0] w fun e w' => e = .returned (.bool true) ∧ Below w.heap.size w w' := by
  have hlen0 := h0.len
  have H0 := Lib.hid h0; clear h0
  by_cases t0 : (1048576 : Int) - (cost_SInstr a0 : Nat) < 0
  · go_enter Try.func5, Try.ntmps5
    go_wp2_with fail
    refine (sz_InstrS _ _ a0 _ _ (by exact H0.out) (by omega) (by omega)).mono ?_
    rintro e z0 ⟨rfl, hb⟩
    rw [left_neg (by omega)]
    have HZ0 := Lib.hid hb; clear hb
    go_wp2
    go_ret
    exact ⟨rfl, HZ0.out⟩
  have HC0 : Hid (cost_SInstr a0 ≤ 1048576) := by show _ ≤ _; omega
  go_enter Try.func5, Try.ntmps5
  go_wp2_with fail
  refine (sz_InstrS _ _ a0 _ _ (by exact H0.out) (by omega) (by omega)).mono ?_
  rintro e z0 ⟨rfl, hb⟩
  rw [left_pos (by omega)]
  have HZ0 := Lib.hid hb; clear hb
  go_wp2_with fail
  refine (to_InstrS _ _ a0 _ (by exact H0.out.on HZ0.out) HC0.out).mono ?_
  rintro e ws0 ⟨As0, cs0, rfl, hs, hb⟩
  have HSs0 := Lib.hid hs; clear hs
  have HBs0 := Lib.hid (below_trans HZ0.out hb)
  clear hb
  go_wp2_with fail
  refine (spec_ValidProgram _ _ a0 _ (by exact HSs0.out.old)).mono ?_
  rintro e v0 ⟨rfl, hb⟩
  have HBv := Lib.hid (below_trans HBs0.out hb); clear hb
  go_wp2_with fail
  refine (to_InstrS _ _ a0 _ (by exact H0.out.on HBv.out) HC0.out).mono ?_
  rintro e wx0 ⟨Ax0, cx0, rfl, hs, hb⟩
  have HSx0 := Lib.hid hs; clear hs
  have HBx0 := Lib.hid (below_trans HBv.out hb)
  clear hb
  go_wp2_with fail
  refine (impl_ValidProgram _ _ a0 _ (by exact HSx0.out.old)).mono ?_
  rintro e v1 ⟨rfl, hb⟩
  have HBg := Lib.hid (below_trans HBx0.out hb)
  have HSx02 := Lib.hid (So.oon HSx0.out hb); clear HSx0; have HSx0 := HSx02; clear HSx02
  clear hb
  go_wp2_with fail
  refine (to_InstrS _ _ a0 _ (by exact H0.out.on HBg.out) HC0.out).mono ?_
  rintro e wy0 ⟨Ay0, cy0, rfl, hs, hb⟩
  have HSy0 := Lib.hid hs; clear hs
  have HBy0 := Lib.hid (below_trans HBg.out hb)
  have HSx02 := Lib.hid (So.oon HSx0.out hb); clear HSx0; have HSx0 := HSx02; clear HSx02
  clear hb
  go_wp2_with fail
  refine (eq_SInstr_c _ _ _ _ a0 a0 _ (by exact HSx0.out.old) (by exact HSy0.out.old)).mono ?_
  rintro e u0 ⟨rfl, hb⟩
  rw [eq_SInstr_refl]
  have HBu0 := Lib.hid (below_trans HBy0.out hb)
  clear hb
  go_wp2
  go_ret
  exact ⟨rfl, HBu0.out⟩

end Go.Proofs.Ytlnakbbngidogaa
