/- What the proof of FnExactTapeWord needs: contracts of the functions that it reaches, each once. -/
import Derived.Test.YtfbgiipmbmdliaaProg
import Derived.Test.YtfbgiipmbmdliaaQMem
import Derived.WalkKit
import Derived.WalkSpells
import Derived.Below
import Derived.LoopTactic
import Derived.Outline
import Derived.Deep.QuietTactic
import Derived.BigQuiet
import Derived.Deep.LoopGhost
import Derived.Handy
import Derived.Lib.Hide
import Derived.Shelf.Abstract
import Derived.StillTailTactics
import Derived.OwnWalk
import Derived.Maps.AppendAt
import Derived.RegionTactic
import Derived.Deep.RegionHeld3
import Derived.Deep.Upon
import Derived.Lib.SliceRun
import Derived.Lib.AppendZeros
namespace Go.Proofs.Ytfbgiipmbmdliaa
open Go.RowKit

/-- w' is w behind some draws. -/
def Dr (w w' : World) : Prop := ∃ m, w' = w.drewN m

theorem Dr.refl (w : World) : Dr w w := ⟨0, rfl⟩

theorem Dr.drewN {w w' : World} (h : Dr w w') (n : Nat) : Dr w (w'.drewN n) := by
  obtain ⟨m, rfl⟩ := h; exact ⟨m + n, World.drewN_drewN _ _ _⟩

theorem Dr.drew {w w' : World} (h : Dr w w') : Dr w w'.drew := h.drewN 1

theorem Dr.trans {a b c : World} (h : Dr a b) (k : Dr b c) : Dr a c := by
  obtain ⟨m, rfl⟩ := h; obtain ⟨n, rfl⟩ := k; exact ⟨m + n, World.drewN_drewN _ _ _⟩

theorem Dr.cell {w w' : World} (h : Dr w w') (p : Addr) : w'.cell? p = w.cell? p := by obtain ⟨m, rfl⟩ := h; rfl

theorem Dr.size {w w' : World} (h : Dr w w') : w'.heap.size = w.heap.size := by obtain ⟨m, rfl⟩ := h; rfl

theorem Dr.below {w w' : World} (h : Dr w w') : Below w.heap.size w w' := by obtain ⟨m, rfl⟩ := h; exact below_drewN (Below.refl _ _) m

theorem Dr.quiet {P : Program} {f : FuncId} {args : Array Value} {w : World} {n : Nat} {v : Value} (h : Calls P f args (w.drewN n) fun e w' => e = .returned v ∧ Dr (w.drewN n) w') : Calls P f args (w.drewN n) fun e w'' => e = .returned v ∧ ∃ m, w'' = w.drewN m :=
  Calls.quiet_of (h.mono fun _ _ ⟨he, hd⟩ => ⟨he, hd⟩)

theorem Dr.quiet0 {P : Program} {f : FuncId} {args : Array Value} {w : World} {n : Nat} {v : Value} (h : Calls P f args (w.drewN n) fun e w' => e = .returned v ∧ w.drewN n = w') : Calls P f args (w.drewN n) fun e w'' => e = .returned v ∧ ∃ m, w'' = w.drewN m :=
  Calls.quiet_of_same (h.mono fun _ _ ⟨he, hd⟩ => ⟨he, hd.symm⟩)

abbrev tTape : Type := (List Int) × (List Int)

abbrev eTape : Enc tTape := (ePr (eSl eInt) (eSl eInt))

theorem shape_Tape {w : World} {S : Nat → Prop} {es : List Value} {x : tTape} (h : eTape.R w S es x) : ∃ A0 c0 A1 c1, es = [.slice A0 x.1.length c0, .slice A1 x.2.length c1] ∧ Sl eInt w S A0 c0 x.1 ∧ Sl eInt w S A1 c1 x.2 := by
  obtain ⟨_, _, rfl, ⟨A0, c0, rfl, h0⟩, ⟨A1, c1, rfl, h1⟩⟩ := h
  exact ⟨A0, c0, A1, c1, rfl, h0, h1⟩

theorem any_hit {α : Type} {p : α → Bool} {xs : List α} {k : Nat} (hk : k < xs.length) (h : p xs[k] = true) : xs.any p = true :=
  List.any_eq_true.2 ⟨_, List.getElem_mem hk, h⟩

theorem any_step {α : Type} {p : α → Bool} {xs : List α} {k : Nat} (hk : k < xs.length) (h0 : (xs.take k).any p = false) (h : p xs[k] = false) : (xs.take (k + 1)).any p = false := by
  rw [List.take_succ_eq_append_getElem hk, List.any_append, h0]; simp [h]

/-- Equality of two lists, element by element. -/
def eqL {α : Type} (p : α → α → Bool) : List α → List α → Bool
  | [], [] => true
  | x :: xs, y :: ys => p x y && eqL p xs ys
  | _, _ => false

theorem eqL_refl {α : Type} {p : α → α → Bool} (hp : ∀ x, p x x = true) : ∀ xs : List α, eqL p xs xs = true
  | [] => rfl
  | x :: xs => by rw [eqL, hp, eqL_refl hp xs]; rfl

theorem eqL_len {α : Type} {p : α → α → Bool} : ∀ (xs ys : List α), xs.length ≠ ys.length → eqL p xs ys = false
  | [], [], h => absurd rfl h
  | [], _ :: _, _ => rfl
  | _ :: _, [], _ => rfl
  | x :: xs, y :: ys, h => by rw [eqL, eqL_len xs ys (by simpa using h)]; simp

theorem eqL_get {α : Type} {p : α → α → Bool} : ∀ (xs ys : List α) (k : Nat) (h1 : k < xs.length) (h2 : k < ys.length), p xs[k] ys[k] = false → eqL p xs ys = false
  | x :: xs, y :: ys, 0, _, _, h => by rw [eqL]; simp at h; rw [h]; rfl
  | x :: xs, y :: ys, k + 1, h1, h2, h => by rw [eqL, eqL_get xs ys k (by simpa using h1) (by simpa using h2) (by simpa using h)]; simp

theorem eqL_all {α : Type} {p : α → α → Bool} : ∀ (xs ys : List α), xs.length = ys.length → (∀ k (h1 : k < xs.length) (h2 : k < ys.length), p xs[k] ys[k] = true) → eqL p xs ys = true
  | [], [], _, _ => rfl
  | x :: xs, y :: ys, hl, h => by
    have e : p x y = true := h 0 (Nat.zero_lt_succ _) (Nat.zero_lt_succ _)
    have e' : eqL p xs ys = true := eqL_all xs ys (by simpa using hl) fun k h1 h2 => h (k + 1) (Nat.succ_lt_succ h1) (Nat.succ_lt_succ h2)
    rw [eqL, e, e']; rfl
  | [], _ :: _, hl, _ => by simp at hl
  | _ :: _, [], hl, _ => by simp at hl

theorem ret_bool {a b : Bool} (h : a = b) : Ending.returned (.bool a) = .returned (.bool b) := by rw [h]

theorem ret_int {k : IntKind} {a b : Int} (h : a = b) : Ending.returned (.int k a) = .returned (.int k b) := by rw [h]

def withinB (n lo hi : Int) : Bool := decide (lo ≤ n) && decide (n ≤ hi)

theorem impl_within (n lo hi : Int) (w : World) :
    Calls Try.prog 81 #[.int .i64 n, .int .i64 lo, .int .i64 hi] w fun e w' => e = .returned (.bool (withinB n lo hi)) ∧ w = w' := by
  unfold withinB
  by_cases h1 : lo ≤ n
  · go_enter Try.func81, Try.ntmps81
    go_wp2
    go_ret
    exact ⟨by first | (simp; done) | simp [h1], rfl⟩
  · have h2 : decide (lo ≤ n) = false := by simpa using h1
    go_enter Try.func81, Try.ntmps81
    go_wp2
    go_ret
    exact ⟨by first | (simp; done) | simp [h2], rfl⟩

theorem spec_l00In (n lo hi : Int) (w : World) :
    Calls Try.prog 79 #[.int .i64 n, .int .i64 lo, .int .i64 hi] w fun e w' => e = .returned (.bool (withinB n lo hi)) ∧ w = w' := by
  unfold withinB
  by_cases h1 : lo ≤ n
  · go_enter Try.func79, Try.ntmps79
    go_wp2
    go_ret
    exact ⟨by first | (simp; done) | simp [h1], rfl⟩
  · have h2 : decide (lo ≤ n) = false := by simpa using h1
    go_enter Try.func79, Try.ntmps79
    go_wp2
    go_ret
    exact ⟨by first | (simp; done) | simp [h2], rfl⟩

theorem costL_take {α : Type} (f : α → Nat) (xs : List α) (k : Nat) (h : k < xs.length) : ((xs.take (k + 1)).map f).sum = ((xs.take k).map f).sum + f xs[k] := by
  rw [List.take_succ_eq_append_getElem h, List.map_append, List.sum_append]; simp only [List.map_cons, List.map_nil, List.sum_cons, List.sum_nil, Nat.add_zero]

theorem cost_le {α : Type} (f : α → Nat) (xs : List α) (k : Nat) : ((xs.take k).map f).sum ≤ (xs.map f).sum := by
  have h : (xs.map f).sum = ((xs.take k).map f).sum + ((xs.drop k).map f).sum := by
    rw [← List.sum_append, ← List.map_append, List.take_append_drop]
  omega

/-- What the size functions of the laws answer. -/
def left (l : Int) (n : Nat) : Int := if l - n < 0 then -1 else l - n

theorem left_neg {l : Int} {n : Nat} (h : l - n < 0) : left l n = -1 := if_pos h

theorem left_pos {l : Int} {n : Nat} (h : ¬ l - n < 0) : left l n = l - n := if_neg h

def cost_L (xs : List Int) : Nat := xs.length

def cost_Tape (x : tTape) : Nat := cost_L x.1 + cost_L x.2

theorem sz_Int64S (A : Option Addr) (c : Nat) (xs : List Int) (l : Int) (w : World) (h : Sl eInt w (Old w) A c xs) (h0 : 0 ≤ l) (h1 : l ≤ 1048576) :
    Calls Try.prog 95 #[.slice A xs.length c, .int .i64 l] w fun e w' => e = .returned (.int .i64 (left l (cost_L xs))) ∧ Below w.heap.size w w' := by
  have hlen := h.len
  clear h
  unfold cost_L
  by_cases hl : l - xs.length < 0
  · rw [left_neg hl]
    go_enter Try.func95, Try.ntmps95
    go_wp2
    go_ret
    exact ⟨rfl, Below.refl _ _⟩
  · rw [left_pos hl]
    go_enter Try.func95, Try.ntmps95
    go_wp2
    go_ret
    exact ⟨rfl, Below.refl _ _⟩

set_option maxHeartbeats 1000000 in
theorem sz_Tape (es : List Value) (x : tTape) (l : Int) (w : World) (h : eTape.R w (Old w) es x) (h0 : 0 ≤ l) (h1 : l ≤ 1048576) :
    Calls Try.prog 40 #[.agg es.toArray, .int .i64 l] w fun e w' => e = .returned (.int .i64 (left l (cost_Tape x))) ∧ Below w.heap.size w w' := by
  obtain ⟨A0, c0, A1, c1, rfl, g0, g1⟩ := shape_Tape h
  have HT : Hid (cost_Tape x = cost_L x.1 + cost_L x.2) := rfl
  have HB0 := Lib.hid ((Below.refl w.heap.size w).alloc (Nat.le_refl _) (.cells #[.slice A0 x.1.length c0, .slice A1 x.2.length c1] 65))
  have K0 := Lib.hid (g0.on HB0.out); clear g0
  have K1 := Lib.hid (g1.on HB0.out); clear g1
  by_cases t0 : l - (cost_L x.1 : Nat) < 0
  · rw [left_neg (by rw [HT.out]; omega)]
    go_enter Try.func40, Try.ntmps40
    go_wp2_with fail
    refine (sz_Int64S _ _ x.1 _ _ K0.out (by omega) (by omega)).mono ?_
    rintro e w1 ⟨rfl, hb⟩
    rw [left_neg (by omega)]
    have HB1 := Lib.hid hb
    clear hb
    obtain ⟨hc, hf⟩ := bcell HB1.out
    go_wp2
    go_ret
    exact ⟨rfl, HB0.out.trans (HB1.out.mono HB0.out.size)⟩
  by_cases t1 : l - (cost_L x.1 : Nat) - (cost_L x.2 : Nat) < 0
  · rw [left_neg (by rw [HT.out]; omega)]
    go_enter Try.func40, Try.ntmps40
    go_wp2_with fail
    refine (sz_Int64S _ _ x.1 _ _ K0.out (by omega) (by omega)).mono ?_
    rintro e w1 ⟨rfl, hb⟩
    rw [left_pos (by omega)]
    have HB1 := Lib.hid hb
    clear hb
    obtain ⟨hc, hf⟩ := bcell HB1.out
    go_wp2_with fail
    refine (sz_Int64S _ _ x.2 _ _ (K1.out.on HB1.out) (by omega) (by omega)).mono ?_
    rintro e w2 ⟨rfl, hb⟩
    rw [left_neg (by omega)]
    have HB2 := Lib.hid (below_trans HB1.out hb)
    clear hb
    obtain ⟨hc, hf⟩ := bcell HB2.out
    go_wp2
    go_ret
    exact ⟨rfl, HB0.out.trans (HB2.out.mono HB0.out.size)⟩
  rw [left_pos (by rw [HT.out]; omega), show l - ((cost_Tape x : Nat) : Int) = l - (cost_L x.1 : Nat) - (cost_L x.2 : Nat) from by rw [HT.out]; first | done | omega]
  go_enter Try.func40, Try.ntmps40
  go_wp2_with fail
  refine (sz_Int64S _ _ x.1 _ _ K0.out (by omega) (by omega)).mono ?_
  rintro e w1 ⟨rfl, hb⟩
  rw [left_pos (by omega)]
  have HB1 := Lib.hid hb
  clear hb
  obtain ⟨hc, hf⟩ := bcell HB1.out
  go_wp2_with fail
  refine (sz_Int64S _ _ x.2 _ _ (K1.out.on HB1.out) (by omega) (by omega)).mono ?_
  rintro e w2 ⟨rfl, hb⟩
  rw [left_pos (by omega)]
  have HB2 := Lib.hid (below_trans HB1.out hb)
  clear hb
  obtain ⟨hc, hf⟩ := bcell HB2.out
  go_wp2
  go_ret
  exact ⟨rfl, HB0.out.trans (HB2.out.mono HB0.out.size)⟩

def eq_i (x y : Int) : Bool := x == y

def eq_L (x y : List Int) : Bool := eqL eq_i x y

theorem eq_i_refl (x : Int) : eq_i x x = true := by simp [eq_i]

theorem eq_L_refl (x : List Int) : eq_L x x = true := eqL_refl eq_i_refl x

def eq_Tape (x y : tTape) : Bool := eq_L x.1 y.1 && eq_L x.2 y.2

theorem eq_Tape_refl (x : tTape) : eq_Tape x x = true := by unfold eq_Tape; simp [eq_L_refl]

set_option maxRecDepth 100000 in
set_option maxHeartbeats 1000000 in
theorem eq_L_c (A A' : Option Addr) (c c' : Nat) (xs ys : List Int) (w : World) (h : Sl eInt w (Old w) A c xs) (h' : Sl eInt w (Old w) A' c' ys) :
    Calls Try.prog 44 #[.slice A xs.length c, .slice A' ys.length c'] w fun e w' => e = .returned (.bool (eq_L xs ys)) ∧ Below w.heap.size w w' := by
  have hlen := h.len
  have hlen' := h'.len
  unfold eq_L
  by_cases hne : xs.length = ys.length
  · have hne' : ((xs.length : Int) != (ys.length : Int)) = false := by simp [hne]
    have HE := Lib.hid hne; clear hne
    have H := Lib.hid h; clear h
    have H' := Lib.hid h'; clear h'
    go_enter Try.func44, Try.ntmps44
    go_wp2
    clear hne'
    go_loopw [5] (fun s5 wr => ∃ k : Nat, k ≤ xs.length ∧ s5 = .int .i64 k ∧ Hid (Below w.heap.size w wr) ∧ Hid (∀ j (h1 : j < xs.length) (h2 : j < ys.length), j < k → eq_i xs[j] ys[j] = true)) (fun s5 _ => xs.length - (intOf s5).toNat)
    case atStart => exact ⟨0, Nat.zero_le _, rfl, Below.refl _ _, fun j _ _ h => absurd h (Nat.not_lt_zero _)⟩
    case round =>
      obtain ⟨k, hk, rfl, HL, HN⟩ := hrel
      by_cases hlt : k < xs.length
      · have hltz : (k : Int) < (xs.length : Int) := by omega
        have hlt' : k < ys.length := by have := HE.out; omega
        have hltz' : (k : Int) < (ys.length : Int) := by omega
        obtain ⟨bp, offp, esp, rfl, hbp, hR, hc⟩ := H.out.at1 rfl hlt
        obtain ⟨rfl, gp⟩ := hR
        have dp0 : wr.cell? ⟨bp, offp + k, none⟩ = some (.int .i64 xs[k]) := (below_olds HL.out _ hbp).trans (hc _ rfl)
        clear hc gp
        try clear hR
        obtain ⟨bq, offq, esq, rfl, hbq, hR, hc⟩ := H'.out.at1 rfl hlt'
        obtain ⟨rfl, gq⟩ := hR
        have dq0 : wr.cell? ⟨bq, offq + k, none⟩ = some (.int .i64 ys[k]) := (below_olds HL.out _ hbq).trans (hc _ rfl)
        clear hc gq
        try clear hR
        have HQ0 : Hid (eq_i xs[k] ys[k] = false → eqL eq_i xs ys = false) := eqL_get xs ys k hlt hlt'
        have HQ1 : Hid (eq_i xs[k] ys[k] = true → ∀ j (h1 : j < xs.length) (h2 : j < ys.length), j < k + 1 → eq_i xs[j] ys[j] = true) := fun e j h1 h2 hj => by
          by_cases ej : j = k
          · subst ej; exact e
          · exact HN.out j h1 h2 (by omega)
        generalize xs[k] = x at dp0 HQ0 HQ1
        generalize ys[k] = y at dq0 HQ0 HQ1
        cases hq : eq_i x y
        · have hq' : (x != y) = true := by simp [eq_i] at hq; simp [hq]
          go_wp2_with fail
          go_quiet (fail)
          go_wp2
          go_ret
          exact ⟨by rw [HQ0.out hq]; rfl, below_drewN HL.out _⟩
        · have hq' : (x != y) = false := by simp [eq_i] at hq; simp [hq]
          go_wp2_with fail
          go_quiet (fail)
          go_wp2
          go_roundw
          case rel => exact ⟨k + 1, by omega, by go_num, below_drewN HL.out _, HQ1.out hq⟩
          case measure => simp [intOf]; omega
      · have hltz : ¬ (k : Int) < (xs.length : Int) := by omega
        obtain rfl : k = xs.length := by omega
        go_wp2
        go_ret
        exact ⟨by rw [eqL_all xs ys HE.out fun j h1 h2 => HN.out j h1 h2 h1]; rfl, HL.out⟩
  · have hne' : ((xs.length : Int) != (ys.length : Int)) = true := by simp; omega
    rw [eqL_len xs ys hne]
    clear h h' hne
    go_enter Try.func44, Try.ntmps44
    go_wp2
    go_ret
    exact ⟨rfl, Below.refl _ _⟩

set_option maxHeartbeats 1000000 in
theorem eq_Tape_c (es es' : List Value) (x y : tTape) (w : World) (h : eTape.R w (Old w) es x) (h' : eTape.R w (Old w) es' y) :
    Calls Try.prog 45 #[.agg es.toArray, .agg es'.toArray] w fun e w' => e = .returned (.bool (eq_Tape x y)) ∧ Below w.heap.size w w' := by
  obtain ⟨Ax0, cx0, Ax1, cx1, rfl, gx0, gx1⟩ := shape_Tape h
  obtain ⟨Ay0, cy0, Ay1, cy1, rfl, gy0, gy1⟩ := shape_Tape h'
  have HB0 := Lib.hid (((Below.refl w.heap.size w).alloc (Nat.le_refl _) (.cells #[.slice Ax0 x.1.length cx0, .slice Ax1 x.2.length cx1] 69)).alloc (by simp) (.cells #[.slice Ay0 y.1.length cy0, .slice Ay1 y.2.length cy1] 69))
  have HX0 := Lib.hid (gx0.on HB0.out); clear gx0
  have HY0 := Lib.hid (gy0.on HB0.out); clear gy0
  have HX1 := Lib.hid (gx1.on HB0.out); clear gx1
  have HY1 := Lib.hid (gy1.on HB0.out); clear gy1
  cases t0 : eq_L x.1 y.1
  · rw [show eq_Tape x y = false from by unfold eq_Tape; simp [t0]]
    go_enter Try.func45, Try.ntmps45
    go_wp2_with fail
    refine (eq_L_c _ _ _ _ x.1 y.1 _ HX0.out HY0.out).mono ?_
    rintro e w1 ⟨rfl, hb⟩
    rw [t0]
    have HB1 := Lib.hid hb
    clear hb
    obtain ⟨hc, hf⟩ := bcell HB1.out
    go_wp2
    go_ret
    exact ⟨rfl, below_trans HB0.out HB1.out⟩
  cases t1 : eq_L x.2 y.2
  · rw [show eq_Tape x y = false from by unfold eq_Tape; simp [t0, t1]]
    go_enter Try.func45, Try.ntmps45
    go_wp2_with fail
    refine (eq_L_c _ _ _ _ x.1 y.1 _ HX0.out HY0.out).mono ?_
    rintro e w1 ⟨rfl, hb⟩
    rw [t0]
    have HB1 := Lib.hid hb
    clear hb
    obtain ⟨hc, hf⟩ := bcell HB1.out
    go_wp2_with fail
    refine (eq_L_c _ _ _ _ x.2 y.2 _ (HX1.out.on HB1.out) (HY1.out.on HB1.out)).mono ?_
    rintro e w2 ⟨rfl, hb⟩
    rw [t1]
    have HB2 := Lib.hid (below_trans HB1.out hb)
    clear hb
    obtain ⟨hc, hf⟩ := bcell HB2.out
    go_wp2
    go_ret
    exact ⟨rfl, below_trans HB0.out HB2.out⟩
  rw [show eq_Tape x y = true from by unfold eq_Tape; simp [t0, t1]]
  go_enter Try.func45, Try.ntmps45
  go_wp2_with fail
  refine (eq_L_c _ _ _ _ x.1 y.1 _ HX0.out HY0.out).mono ?_
  rintro e w1 ⟨rfl, hb⟩
  rw [t0]
  have HB1 := Lib.hid hb
  clear hb
  obtain ⟨hc, hf⟩ := bcell HB1.out
  go_wp2_with fail
  refine (eq_L_c _ _ _ _ x.2 y.2 _ (HX1.out.on HB1.out) (HY1.out.on HB1.out)).mono ?_
  rintro e w2 ⟨rfl, hb⟩
  rw [t1]
  have HB2 := Lib.hid (below_trans HB1.out hb)
  clear hb
  obtain ⟨hc, hf⟩ := bcell HB2.out
  go_wp2
  go_ret
  exact ⟨rfl, below_trans HB0.out HB2.out⟩

theorem info_impl_Int64 : (Try.prog.info? 2).map (fun i => (i.zero, i.size, i.bytes)) = some (some (.int .i64 0), 1, 8) := by kernel_rfl

set_option maxHeartbeats 1000000 in
theorem to_Int64S (A : Option Addr) (c : Nat) (xs : List Int) (w : World) (h : Sl eInt w (Old w) A c xs) (hsm : cost_L xs ≤ 1048576) :
    Calls Try.prog 52 #[.slice A xs.length c] w fun e w' => ∃ A' c', e = .returned (.slice A' xs.length c') ∧ So eInt w' (Fr w w') A' c' xs ∧ Below w.heap.size w w' := by
  obtain ⟨i0, hi0, hz0, hz1, hz2⟩ := info_parts info_impl_Int64
  have hlen := h.len
  have hsl : xs.length ≤ 1048576 := by exact hsm
  have HCO := Lib.hid hsm; clear hsm
  have H := Lib.hid h; clear h
  go_enter Try.func52, Try.ntmps52
  go_wp2_with (at_make; refine wpList_make_full _ rfl _ _ 23 rfl w.heap.size 2 i0 _ 1 Try.underlying23 hi0 hz0 hz1 _ _ _ _ xs.length rfl rfl rfl rfl (by rw [hz2]; omega) (by unfold maxLen; omega) (Nat.le_refl _) ?_)
  intro w1 hown hgrow
  obtain ⟨cur, hB, hs, ht, hn1, hn2⟩ := Blk.of_own hown
  have HB := Lib.hid hB; clear hB
  have HS : Hid (cur.size = xs.length) := by show _ = _; omega
  have hbel : Below w.heap.size w w1 := (Below.refl _ _).grown hgrow (Nat.le_refl _) (by simp)
  have HL := Lib.hid hbel; clear hbel
  clear hs ht hn1 hn2 hgrow hown hi0 hz0 hz1 hz2
  go_wp2_with fail
  go_loopw [4] (fun s4 wr => ∃ (k : Nat) (cur : Array Value), k ≤ xs.length ∧ s4 = .int .i64 k ∧ Hid (Below w.heap.size w wr) ∧ Hid (Blk wr w.heap.size 2 cur) ∧ Hid (cur.size = xs.length) ∧ Hid (Filled eInt wr w.heap.size (fun b => w.heap.size ≤ b) cur k xs)) (fun s4 _ => xs.length - (intOf s4).toNat)
  case atStart => exact ⟨0, cur, Nat.zero_le _, rfl, HL, HB, HS, Filled.zero⟩
  case round =>
    clear HB HS HL
    obtain ⟨k, cur, hk, rfl, HL, HB, HS, HF⟩ := hrel
    by_cases hlt : k < xs.length
    · have hltz : (k : Int) < (xs.length : Int) := by omega
      obtain ⟨b, off, es, rfl, hb, hR, hc⟩ := H.out.at1 rfl hlt
      have HX : Hid (xs[k]? = some xs[k]) := List.getElem?_eq_getElem hlt
      obtain ⟨rfl, gq⟩ := hR
      have d0 : wr.cell? ⟨b, off + k, none⟩ = some (.int .i64 xs[k]) := (below_olds HL.out _ hb).trans (hc _ rfl)
      have HR := Lib.hid gq
      clear hc gq
      try clear hR
      obtain ⟨v0, hv0⟩ : ∃ v, cur[k]? = some v := get_some (by have := HS.out; omega)
      have HV0 := Lib.hid hv0; clear hv0
      generalize xs[k] = y at d0 HX HR
      have e0 : wr.cell? ⟨w.heap.size, k, none⟩ = some v0 := (HB.out.cell _).trans HV0.out
      have f0 := HB.out.frozen (k)
      go_wp2
      go_roundw
      case rel =>
        exact ⟨k + 1, setAll cur k [_], by omega, by go_num, HL.out.setCell (Nat.le_refl _) _, HB.out.set _ _, (size_setAll _ _ _).trans HS.out, by
          have := (HF.out.set k (.int .i64 y)).step (w' := wr.setCell ⟨w.heap.size, k, none⟩ (.int .i64 y)) (T0 := fun _ => False) (es := [.int .i64 y]) (fun _ _ _ => rfl) (Nat.le_refl _) HX.out ⟨rfl, HR.out⟩ (fun _ h => h.elim) (by have := HS.out; show (k + 1) * 1 ≤ _; omega)
          rw [show k * eInt.size = k from Nat.mul_one k] at this
          exact this⟩
      case measure => simp [intOf]; omega
    · have hltz : ¬ (k : Int) < (xs.length : Int) := by omega
      obtain rfl : k = xs.length := by omega
      go_wp2
      go_ret
      exact ⟨_, _, rfl, HF.out.soFr HB.out (Nat.le_refl _) (by unfold maxLen; omega), HL.out⟩

set_option maxRecDepth 100000 in
set_option maxHeartbeats 2000000 in
theorem to_Tape (es : List Value) (x : tTape) (w : World) (h : eTape.R w (Old w) es x) (hcost : cost_Tape x ≤ 1048576) :
    Calls Try.prog 42 #[.agg es.toArray] w fun e w' => ∃ es', e = .returned (.agg es'.toArray) ∧ eTape.O w' (Fr w w') es' x ∧ Below w.heap.size w w' := by
  obtain ⟨A0, c0, A1, c1, rfl, g0, g1⟩ := shape_Tape h
  have HC : Hid (cost_Tape x ≤ 1048576) := hcost
  unfold cost_Tape at hcost
  have HB0 : Hid (Below w.heap.size w (((w.alloc (.cells #[.slice A0 x.1.length c0, .slice A1 x.2.length c1] 65)).alloc (.cells #[.slice none 0 0, .slice none 0 0] 69)).alloc (.cells #[.slice none 0 0, .slice none 0 0] 69))) := by show Below _ _ _; go_grown
  have hc0 : cost_L x.1 ≤ 1048576 := by omega
  have HC0 := Lib.hid hc0; clear hc0
  have K0 := Lib.hid g0; clear g0
  have hc1 : cost_L x.2 ≤ 1048576 := by omega
  have HC1 := Lib.hid hc1; clear hc1
  have K1 := Lib.hid g1; clear g1
  clear hcost h
  go_enter Try.func42, Try.ntmps42
  go_wp2_with fail
  refine (to_Int64S _ _ x.1 _ (by exact K0.out.on HB0.out) HC0.out).mono ?_
  rintro e w1 ⟨A0', c0', rfl, hs, hb⟩
  have HS1 := Lib.hid hs; clear hs
  have BL1 := Lib.hid (HB0.out.trans (hb.mono HB0.out.size))
  have HBW1 := Lib.hid hb; clear hb
  have HX := Lib.hid ((((Blk.new w 65 #[.slice A0 x.1.length c0, .slice A1 x.2.length c1]).alloc _).alloc _).on HBW1.out)
  have HR := Lib.hid (((Blk.new1 w _ 69 #[.slice none 0 0, .slice none 0 0]).alloc _).on HBW1.out)
  have HO : Hid (Blk w1 (w.heap.size + 1 + 1) 69 #[.slice none 0 0, .slice none 0 0]) := (Blk.new2 w _ _ 69 #[.slice none 0 0, .slice none 0 0]).on HBW1.out
  have x0 : w1.cell? ⟨w.heap.size, 0, none⟩ = some (.slice A0 x.1.length c0) := HX.out.cell 0
  have o0 : w1.cell? ⟨w.heap.size + 1 + 1, 0, none⟩ = some (.slice none 0 0) := HO.out.cell 0
  have r0 : w1.cell? ⟨w.heap.size + 1, 0, none⟩ = some (.slice none 0 0) := HR.out.cell 0
  have p0 : w1.frozen? ⟨w.heap.size + 1 + 1, 0, none⟩ = false := HO.out.frozen 0
  have q0 : w1.frozen? ⟨w.heap.size + 1, 0, none⟩ = false := HR.out.frozen 0
  have x1 : w1.cell? ⟨w.heap.size, 1, none⟩ = some (.slice A1 x.2.length c1) := HX.out.cell 1
  have o1 : w1.cell? ⟨w.heap.size + 1 + 1, 1, none⟩ = some (.slice none 0 0) := HO.out.cell 1
  have r1 : w1.cell? ⟨w.heap.size + 1, 1, none⟩ = some (.slice none 0 0) := HR.out.cell 1
  have p1 : w1.frozen? ⟨w.heap.size + 1 + 1, 1, none⟩ = false := HO.out.frozen 1
  have q1 : w1.frozen? ⟨w.heap.size + 1, 1, none⟩ = false := HR.out.frozen 1
  go_wp2_with fail
  refine (to_Int64S _ _ x.2 _ (by exact K1.out.on (BL1.out.setCell (p := ⟨w.heap.size + 1 + 1, 0, none⟩) (by show w.heap.size ≤ w.heap.size + 1 + 1; omega) _)) HC1.out).mono ?_
  rintro e w2 ⟨A1', c1', rfl, hs, hb⟩
  have HS2 := Lib.hid hs; clear hs
  have BL2 := Lib.hid ((BL1.out.setCell (p := ⟨w.heap.size + 1 + 1, 0, none⟩) (by show w.heap.size ≤ w.heap.size + 1 + 1; omega) _).trans (hb.mono (BL1.out.setCell (p := ⟨w.heap.size + 1 + 1, 0, none⟩) (by show w.heap.size ≤ w.heap.size + 1 + 1; omega) _).size))
  have HBW2 := Lib.hid hb; clear hb
  have HX' := Lib.hid ((HX.out.far (p := ⟨w.heap.size + 1 + 1, 0, none⟩) (by show w.heap.size ≠ w.heap.size + 1 + 1; omega) _).on HBW2.out); clear HX; have HX := HX'; clear HX'
  have HR' := Lib.hid ((HR.out.far (p := ⟨w.heap.size + 1 + 1, 0, none⟩) (by show w.heap.size + 1 ≠ w.heap.size + 1 + 1; omega) _).on HBW2.out); clear HR; have HR := HR'; clear HR'
  have HO' : Hid (Blk w2 (w.heap.size + 1 + 1) 69 #[.slice A0' x.1.length c0', .slice none 0 0]) := (HO.out.set _ _).on HBW2.out; clear HO; have HO := HO'; clear HO'
  clear x0 o0 r0 p0 q0 x1 o1 r1 p1 q1
  have x0 : w2.cell? ⟨w.heap.size, 0, none⟩ = some (.slice A0 x.1.length c0) := HX.out.cell 0
  have o0 : w2.cell? ⟨w.heap.size + 1 + 1, 0, none⟩ = some (.slice A0' x.1.length c0') := HO.out.cell 0
  have r0 : w2.cell? ⟨w.heap.size + 1, 0, none⟩ = some (.slice none 0 0) := HR.out.cell 0
  have p0 : w2.frozen? ⟨w.heap.size + 1 + 1, 0, none⟩ = false := HO.out.frozen 0
  have q0 : w2.frozen? ⟨w.heap.size + 1, 0, none⟩ = false := HR.out.frozen 0
  have x1 : w2.cell? ⟨w.heap.size, 1, none⟩ = some (.slice A1 x.2.length c1) := HX.out.cell 1
  have o1 : w2.cell? ⟨w.heap.size + 1 + 1, 1, none⟩ = some (.slice none 0 0) := HO.out.cell 1
  have r1 : w2.cell? ⟨w.heap.size + 1, 1, none⟩ = some (.slice none 0 0) := HR.out.cell 1
  have p1 : w2.frozen? ⟨w.heap.size + 1 + 1, 1, none⟩ = false := HO.out.frozen 1
  have q1 : w2.frozen? ⟨w.heap.size + 1, 1, none⟩ = false := HR.out.frozen 1
  go_wp2
  have hE : Blk (((w2.setCell ⟨w.heap.size + 1 + 1, 1, none⟩ (.slice A1' x.2.length c1')).setCell ⟨w.heap.size + 1, 0, none⟩ (.slice A0' x.1.length c0')).setCell ⟨w.heap.size + 1, 1, none⟩ (.slice A1' x.2.length c1')) (w.heap.size + 1) 69 #[.slice A0' x.1.length c0', .slice A1' x.2.length c1'] := (((HR.out.far (p := ⟨w.heap.size + 1 + 1, 1, none⟩) (by show w.heap.size + 1 ≠ w.heap.size + 1 + 1; omega) _).set _ _).set _ _)
  have e0 : (((w2.setCell ⟨w.heap.size + 1 + 1, 1, none⟩ (.slice A1' x.2.length c1')).setCell ⟨w.heap.size + 1, 0, none⟩ (.slice A0' x.1.length c0')).setCell ⟨w.heap.size + 1, 1, none⟩ (.slice A1' x.2.length c1')).cell? ⟨w.heap.size + 1, 0, none⟩ = some (.slice A0' x.1.length c0') := hE.cell 0
  have e1 : (((w2.setCell ⟨w.heap.size + 1 + 1, 1, none⟩ (.slice A1' x.2.length c1')).setCell ⟨w.heap.size + 1, 0, none⟩ (.slice A0' x.1.length c0')).setCell ⟨w.heap.size + 1, 1, none⟩ (.slice A1' x.2.length c1')).cell? ⟨w.heap.size + 1, 1, none⟩ = some (.slice A1' x.2.length c1') := hE.cell 1
  refine bodyPost_ret (v := .agg #[.slice A0' x.1.length c0', .slice A1' x.2.length c1']) (by simp [results, Try.results42, go_sem, e0, e1]) rfl ?_
  have t1 : w.heap.size + 3 ≤ w1.heap.size := by have h1 := HBW1.out.size; simp only [World.size_alloc] at h1; omega
  have t2 : w.heap.size + 3 ≤ w2.heap.size := by have h1 := HBW1.out.size; simp only [World.size_alloc] at h1; have h2 := HBW2.out.size; simp only [World.size_setCell] at h2; omega
  refine ⟨[.slice A0' x.1.length c0', .slice A1' x.2.length c1'], rfl, ?_, ?_⟩
  · have sE1 : So eInt (((w2.setCell ⟨w.heap.size + 1 + 1, 1, none⟩ (.slice A1' x.2.length c1')).setCell ⟨w.heap.size + 1, 0, none⟩ (.slice A0' x.1.length c0')).setCell ⟨w.heap.size + 1, 1, none⟩ (.slice A1' x.2.length c1')) (Iv w.heap.size w1.heap.size) _ _ x.1 := (HS1.out.keep (w' := (((w2.setCell ⟨w.heap.size + 1 + 1, 1, none⟩ (.slice A1' x.2.length c1')).setCell ⟨w.heap.size + 1, 0, none⟩ (.slice A0' x.1.length c0')).setCell ⟨w.heap.size + 1, 1, none⟩ (.slice A1' x.2.length c1'))) fun b hb => ((((((Lat.refl (w.heap.size + 3) w1).set (p := ⟨w.heap.size + 1 + 1, 0, none⟩) (by show w.heap.size + 1 + 1 < _; omega)).below HBW2.out).set (p := ⟨w.heap.size + 1 + 1, 1, none⟩) (by show w.heap.size + 1 + 1 < _; omega)).set (p := ⟨w.heap.size + 1, 0, none⟩) (by show w.heap.size + 1 < _; omega)).set (p := ⟨w.heap.size + 1, 1, none⟩) (by show w.heap.size + 1 < _; omega)).block b (by have h1 := hb.1; simp only [World.size_alloc, World.size_setCell] at h1; omega) hb.2).more (Iv.mono (by simp only [World.size_alloc]; omega) (by omega))
    have u2 : w1.heap.size ≤ w2.heap.size := by have := HBW2.out.size; simp only [World.size_setCell] at this; omega
    have sE2 : So eInt (((w2.setCell ⟨w.heap.size + 1 + 1, 1, none⟩ (.slice A1' x.2.length c1')).setCell ⟨w.heap.size + 1, 0, none⟩ (.slice A0' x.1.length c0')).setCell ⟨w.heap.size + 1, 1, none⟩ (.slice A1' x.2.length c1')) (Iv w1.heap.size (((w2.setCell ⟨w.heap.size + 1 + 1, 1, none⟩ (.slice A1' x.2.length c1')).setCell ⟨w.heap.size + 1, 0, none⟩ (.slice A0' x.1.length c0')).setCell ⟨w.heap.size + 1, 1, none⟩ (.slice A1' x.2.length c1')).heap.size) _ _ x.2 := (HS2.out.keep (w' := (((w2.setCell ⟨w.heap.size + 1 + 1, 1, none⟩ (.slice A1' x.2.length c1')).setCell ⟨w.heap.size + 1, 0, none⟩ (.slice A0' x.1.length c0')).setCell ⟨w.heap.size + 1, 1, none⟩ (.slice A1' x.2.length c1'))) fun b hb => ((((Lat.refl (w.heap.size + 3) w2).set (p := ⟨w.heap.size + 1 + 1, 1, none⟩) (by show w.heap.size + 1 + 1 < _; omega)).set (p := ⟨w.heap.size + 1, 0, none⟩) (by show w.heap.size + 1 < _; omega)).set (p := ⟨w.heap.size + 1, 1, none⟩) (by show w.heap.size + 1 < _; omega)).block b (by have h1 := hb.1; simp only [World.size_alloc, World.size_setCell] at h1; omega) hb.2).more (Iv.mono (by simp only [World.size_setCell]; omega) (by simp only [World.size_setCell]; omega))
    exact (oPr (l := w.heap.size) (m := w1.heap.size) (oSl sE1) (oSl sE2) (by omega) (by first | omega | (simp only [World.size_setCell]; omega)))
  · exact (((BL2.out.setCell (p := ⟨w.heap.size + 1 + 1, 1, none⟩) (by show w.heap.size ≤ w.heap.size + 1 + 1; omega) _).setCell (p := ⟨w.heap.size + 1, 0, none⟩) (by show w.heap.size ≤ w.heap.size + 1; omega) _).setCell (p := ⟨w.heap.size + 1, 1, none⟩) (by show w.heap.size ≤ w.heap.size + 1; omega) _)

theorem i64_small {x : Int} (h0 : 0 ≤ x) (h1 : x ≤ 1000000000000) : I64 x := ⟨by omega, by omega⟩

/-- How many numbers a list of elements takes. -/
def cntL {α : Type} (c : α → Nat) (xs : List α) : Nat := (xs.map c).sum

/-- The elements marked one after another from k on. -/
def mkL {α : Type} (f : α → Int → α) (c : α → Nat) : List α → Int → List α
  | [], _ => []
  | x :: xs, k => f x k :: mkL f c xs (k + c x)

theorem mkL_len {α : Type} (f : α → Int → α) (c : α → Nat) : ∀ (xs : List α) (k : Int), (mkL f c xs k).length = xs.length
  | [], _ => rfl
  | x :: xs, k => by rw [mkL, List.length_cons, mkL_len f c xs, List.length_cons]

theorem mkL_append {α : Type} (f : α → Int → α) (c : α → Nat) : ∀ (xs ys : List α) (k : Int), mkL f c (xs ++ ys) k = mkL f c xs k ++ mkL f c ys (k + cntL c xs)
  | [], ys, k => by simp [mkL, cntL]
  | x :: xs, ys, k => by
    rw [List.cons_append, mkL, mkL, mkL_append f c xs ys, List.cons_append]
    have : k + (c x : Int) + (cntL c xs : Int) = k + (cntL c (x :: xs) : Int) := by unfold cntL; simp only [List.map_cons, List.sum_cons]; omega
    rw [this]

theorem cntL_take {α : Type} (c : α → Nat) (xs : List α) (i : Nat) (h : i < xs.length) : cntL c (xs.take (i + 1)) = cntL c (xs.take i) + c xs[i] := costL_take c xs i h

theorem cntL_le {α : Type} (c : α → Nat) (xs : List α) (i : Nat) : cntL c (xs.take i) ≤ cntL c xs := cost_le c xs i

/-- What a marking loop has made after i rounds. -/
def mkTo {α : Type} (f : α → Int → α) (c : α → Nat) (xs : List α) (k : Int) (i : Nat) : List α := mkL f c (xs.take i) k ++ xs.drop i

theorem mkTo_zero {α : Type} (f : α → Int → α) (c : α → Nat) (xs : List α) (k : Int) : mkTo f c xs k 0 = xs := by simp [mkTo, mkL]

theorem mkTo_len {α : Type} (f : α → Int → α) (c : α → Nat) (xs : List α) (k : Int) (i : Nat) : (mkTo f c xs k i).length = xs.length := by
  unfold mkTo; rw [List.length_append, mkL_len, List.length_take, List.length_drop]; omega

theorem mkTo_end {α : Type} (f : α → Int → α) (c : α → Nat) (xs : List α) (k : Int) : mkTo f c xs k xs.length = mkL f c xs k := by simp [mkTo]

theorem mkTo_step {α : Type} (f : α → Int → α) (c : α → Nat) (xs : List α) (k : Int) (i : Nat) (h : i < xs.length) : (mkTo f c xs k i).set i (f xs[i] (k + cntL c (xs.take i))) = mkTo f c xs k (i + 1) := by
  have hl : (mkL f c (xs.take i) k).length = i := by rw [mkL_len, List.length_take]; omega
  unfold mkTo
  rw [List.take_succ_eq_append_getElem h, mkL_append, List.drop_eq_getElem_cons h, List.set_append_right _ _ (by omega), hl, Nat.sub_self, List.set_cons_zero]
  simp [mkL]

theorem mkL_get {α : Type} (f : α → Int → α) (c : α → Nat) (xs : List α) (k : Int) (i : Nat) (h : i < xs.length) : (mkL f c xs k)[i]? = some (f xs[i] (k + cntL c (xs.take i))) := by
  have h1 : mkL f c xs k = mkL f c (xs.take i) k ++ mkL f c (xs.drop i) (k + cntL c (xs.take i)) := by rw [← mkL_append, List.take_append_drop]
  have hl : (mkL f c (xs.take i) k).length = i := by rw [mkL_len, List.length_take]; omega
  rw [h1, List.getElem?_append_right (by omega), hl, Nat.sub_self, List.drop_eq_getElem_cons h]
  rfl

def mk_i (_ : Int) (k : Int) : Int := k

def ct_i (_ : Int) : Nat := 1

def mk_L (xs : List Int) (k : Int) : List Int := mkL mk_i ct_i xs k

def ct_L (xs : List Int) : Nat := cntL ct_i xs

/-- By value: what its slices lead to is marked. -/
def mv_Tape (x : tTape) (k : Int) : tTape := (mk_L x.1 (k), mk_L x.2 (k + ct_L x.1))

def cv_Tape (x : tTape) : Nat := ct_L x.1 + ct_L x.2

set_option maxHeartbeats 1000000 in
theorem mark_L_c (A : Option Addr) (c : Nat) (xs : List Int) (k : Int) (w : World) (S : Nat → Prop) (h : So eInt w S A c xs) (_hS : ∀ b, S b → b < w.heap.size) (hk : 0 ≤ k) (hk' : k + (ct_L xs : Int) ≤ 1000000000000) :
    Calls Try.prog 47 #[.slice A xs.length c, .int .i64 k] w fun e w' => e = .returned (.int .i64 (k + (ct_L xs : Int))) ∧ So eInt w' S A c (mk_L xs k) ∧ Chg S w w' := by
  have hlen := h.sl.len
  clear _hS
  have H := Lib.hid h; clear h
  have HC : Hid (ct_L xs = cntL ct_i xs) := rfl
  go_enter Try.func47, Try.ntmps47
  go_wp2
  go_loopw [1, 5] (fun s1 s5 wr => ∃ (i : Nat) (q : Int), i ≤ xs.length ∧ s5 = .int .i64 i ∧ s1 = .int .i64 q ∧ 0 ≤ q ∧ q ≤ 1000000000000 ∧ Hid (q = k + (cntL ct_i (xs.take i) : Int)) ∧ Hid (So eInt wr S A c (mkTo mk_i ct_i xs k i)) ∧ Hid (Chg S w wr)) (fun _ s5 _ => xs.length - (intOf s5).toNat)
  case atStart => exact ⟨0, k, Nat.zero_le _, rfl, rfl, hk, by omega, by show _ = _; simp [cntL], by show So _ _ _ _ _ _; rw [mkTo_zero]; exact H.out, Chg.refl _ _⟩
  case round =>
    obtain ⟨i, q, hi, rfl, rfl, hq0, hq1, HQ, HS, HG⟩ := hrel
    by_cases hlt : i < xs.length
    · have hltz : (i : Int) < (xs.length : Int) := by omega
      have HQ2 : Hid (q + 1 ≤ 1000000000000 ∧ q + 1 = k + (cntL ct_i (xs.take (i + 1)) : Int)) := by
        have h1 := cntL_take ct_i xs i hlt
        have h2 := cntL_le ct_i xs (i + 1)
        have h3 : ct_i xs[i] = 1 := rfl
        have h4 := HQ.out
        have h5 := HC.out
        refine ⟨?_, ?_⟩ <;> omega
      have hq2 := HQ2.out.1
      obtain ⟨b, off, t, cur, T, es, rfl, hSb, hB, hT, hO, hcells, hre⟩ := HS.out.at (k := i) (by rw [mkTo_len]; exact hlt)
      have hel := eInt.len (eInt.read hO)
      obtain ⟨v0, hv0⟩ : ∃ v, cur[off + i]? = some v := ⟨_, by have h := hcells 0 _ (List.getElem?_eq_getElem (by rw [hel]; decide)); rw [show off + i * eInt.size + 0 = off + i from by show off + i * 1 + 0 = _; omega] at h; exact h⟩
      have e0 : wr.cell? ⟨b, off + i, none⟩ = some v0 := (hB.cell _).trans hv0
      have f0 := hB.frozen (off + i)
      clear hv0
      have HB := Lib.hid hB; clear hB hcells hel
      have HRE : Hid (So eInt (wr.setCell ⟨b, off + i, none⟩ (.int .i64 (q))) S (some ⟨b, off, none⟩) c (mkTo mk_i ct_i xs k (i + 1))) := by
        show So _ _ _ _ _ _
        rw [← mkTo_step mk_i ct_i xs k i hlt, ← HQ.out]
        refine hre _ [.int .i64 (q)] _ (oI (i64_small (by omega) (by omega))) ?_ (fun m hm hne _ => ?_)
        · rw [show off + i * eInt.size = off + i from by show off + i * 1 = _; omega]; exact HB.out.set _ _
        · rw [Below.heap_setCell _ _ _ _ (by exact hne)]
      clear hre hO hT
      have HG2 : Hid (Chg S w (wr.setCell ⟨b, off + i, none⟩ (.int .i64 (q)))) := (HG.out.set (by exact hSb) _)
      have HSB := Lib.hid hSb; clear hSb
      go_wp2
      go_roundw
      case rel => exact ⟨i + 1, q + 1, by omega, by go_num, rfl, by omega, by omega, by show _ = _; have := HQ2.out.2; omega, HRE.out, HG2.out⟩
      case measure => simp [intOf]; omega
    · have hltz : ¬ (i : Int) < (xs.length : Int) := by omega
      obtain rfl : i = xs.length := by omega
      have h2 := HQ.out
      rw [List.take_length] at h2
      have h3 := HS.out
      rw [mkTo_end] at h3
      have H2 := Lib.hid h2; have H3 := Lib.hid h3; clear h2 h3
      go_wp2
      go_ret
      exact ⟨ret_int (by rw [H2.out, HC.out]), H3.out, HG.out⟩

set_option maxHeartbeats 1000000 in
theorem held_L_c (A : Option Addr) (c : Nat) (xs : List Int) (k : Int) (w : World) (h : Sl eInt w (Old w) A c (mk_L xs k)) (hk : 0 ≤ k) (hk' : k + (ct_L xs : Int) ≤ 1000000000000) :
    Calls Try.prog 48 #[.slice A xs.length c, .int .i64 k] w fun e w' => e = .returned (.int .i64 (k + (ct_L xs : Int))) ∧ Below w.heap.size w w' := by
  have hlen := h.len
  have hL : (mk_L xs k).length = xs.length := mkL_len _ _ _ _
  rw [hL] at hlen
  have HLen := Lib.hid hL; clear hL
  have H := Lib.hid h; clear h
  have HC : Hid (ct_L xs = cntL ct_i xs) := rfl
  go_enter Try.func48, Try.ntmps48
  go_wp2
  go_loop [1, 5] (fun s1 s5 => ∃ (i : Nat) (q : Int), i ≤ xs.length ∧ s5 = .int .i64 i ∧ s1 = .int .i64 q ∧ 0 ≤ q ∧ q ≤ 1000000000000 ∧ Hid (q = k + (cntL ct_i (xs.take i) : Int))) (fun _ s5 => xs.length - (intOf s5).toNat)
  case atStart => exact ⟨0, k, Nat.zero_le _, rfl, rfl, hk, by omega, by show _ = _; simp [cntL]⟩
  case round =>
    obtain ⟨i, q, hi, rfl, rfl, hq0, hq1, HQ⟩ := hrel
    by_cases hlt : i < xs.length
    · have hltz : (i : Int) < (xs.length : Int) := by omega
      have HQ2 : Hid (q + 1 ≤ 1000000000000 ∧ q + 1 = k + (cntL ct_i (xs.take (i + 1)) : Int)) := by
        have h1 := cntL_take ct_i xs i hlt
        have h2 := cntL_le ct_i xs (i + 1)
        have h3 : ct_i xs[i] = 1 := rfl
        have h4 := HQ.out
        have h5 := HC.out
        refine ⟨?_, ?_⟩ <;> omega
      have hq2 := HQ2.out.1
      have hlt2 : i < (mk_L xs k).length := by rw [HLen.out]; exact hlt
      have HE : Hid ((mk_L xs k)[i] = mk_i xs[i] q) := by
        have h1 := mkL_get mk_i ct_i xs k i hlt
        rw [← HQ.out] at h1
        exact Option.some.inj ((List.getElem?_eq_getElem hlt2).symm.trans h1)
      obtain ⟨b, off, es, rfl, hb, hR, hc⟩ := H.out.at1 rfl hlt2
      rw [HE.out] at hR
      obtain ⟨rfl, gq⟩ := hR
      have d0 : w.cell? ⟨b, off + i, none⟩ = some (.int .i64 q) := hc _ rfl
      have t0 : (q != q) = false := by simp
      clear hc gq
      try clear hR
      go_wp2
      go_round
      case rel => exact ⟨i + 1, q + 1, by omega, by go_num, rfl, by omega, by omega, by show _ = _; have := HQ2.out.2; omega⟩
      case measure => simp [intOf]; omega
    · have hltz : ¬ (i : Int) < (xs.length : Int) := by omega
      obtain rfl : i = xs.length := by omega
      have h2 := HQ.out
      rw [List.take_length] at h2
      have H2 := Lib.hid h2; clear h2
      go_wp2
      go_ret
      exact ⟨ret_int (by rw [H2.out, HC.out]), Below.refl _ _⟩

set_option maxRecDepth 100000 in
set_option maxHeartbeats 1000000 in
theorem mark_Tape_c (es : List Value) (x : tTape) (k : Int) (w : World) (S : Nat → Prop) (h : eTape.O w S es x) (hS : ∀ b, S b → b < w.heap.size) (hk : 0 ≤ k) (hk' : k + (cv_Tape x : Int) ≤ 1000000000000) :
    Calls Try.prog 46 #[.agg es.toArray, .int .i64 k] w fun e w' => e = .returned (.int .i64 (k + (cv_Tape x : Int))) ∧ eTape.O w' S es (mv_Tape x k) ∧ Chg S w w' := by
  obtain ⟨_, _, S0, R0, rfl, p0, r0, ⟨A0, c0, rfl, o0⟩, ⟨A1, c1, rfl, o1⟩⟩ := h
  have HB0 : Hid (Below w.heap.size w (w.alloc (.cells #[.slice A0 x.1.length c0, .slice A1 x.2.length c1] 69))) := (Below.refl _ _).alloc (Nat.le_refl _) _
  have HS0 := Lib.hid hS; clear hS
  have SUB0 : Hid (∀ b, S0 b → S b) := fun b hb => (p0 b hb).1
  have DIS0_1 : Hid (∀ b, S0 b → R0 b → False) := fun b hb hb2 => (p0 b hb).2 hb2
  have SUB1 : Hid (∀ b, R0 b → S b) := fun b hb => (r0 b hb)
  have O0 := Lib.hid (o0.keep (w' := w.alloc (.cells #[.slice A0 x.1.length c0, .slice A1 x.2.length c1] 69)) fun b hb => Below.heap_alloc _ _ _ (HS0.out b (SUB0.out b hb))); clear o0
  have ct0 := Lib.hid (show (0 : Int) ≤ (ct_L x.1 : Int) from by omega)
  have O1 := Lib.hid (o1.keep (w' := w.alloc (.cells #[.slice A0 x.1.length c0, .slice A1 x.2.length c1] 69)) fun b hb => Below.heap_alloc _ _ _ (HS0.out b (SUB1.out b hb))); clear o1
  have ct1 := Lib.hid (show (0 : Int) ≤ (ct_L x.2 : Int) from by omega)
  have HCT : Hid (cv_Tape x = ct_L x.1 + ct_L x.2) := rfl
  go_enter Try.func46, Try.ntmps46
  go_wp2_with fail
  refine (mark_L_c _ _ x.1 _ _ S0 O0.out (fun b hb => Nat.lt_of_lt_of_le (HS0.out b (SUB0.out b hb)) HB0.out.size) (by omega) (by have := HCT.out; omega)).mono ?_
  rintro e w1 ⟨rfl, hs, hc⟩
  have HX : Hid (Blk w1 w.heap.size 69 #[.slice A0 x.1.length c0, .slice A1 x.2.length c1]) := (hc.block w.heap.size (by simp) (fun hb => Nat.lt_irrefl _ (HS0.out _ (SUB0.out _ hb)))).trans (Blk.new w 69 #[.slice A0 x.1.length c0, .slice A1 x.2.length c1])
  have O1_ := Lib.hid (O1.out.keep fun b hb => hc.block b (Nat.lt_of_lt_of_le (HS0.out b (SUB1.out b hb)) HB0.out.size) (fun hb2 => DIS0_1.out b hb2 hb)); clear O1; have O1 := O1_; clear O1_
  clear O0; have O0 := Lib.hid hs; clear hs
  have HG1 : Hid (Chg S (w.alloc (.cells #[.slice A0 x.1.length c0, .slice A1 x.2.length c1] 69)) w1) := hc.mono SUB0.out
  clear hc
  have HXo := HX; clear HX
  have x0 : w1.cell? ⟨w.heap.size, 0, none⟩ = some (.slice A0 x.1.length c0) := HXo.out.cell 0
  have x1 : w1.cell? ⟨w.heap.size, 1, none⟩ = some (.slice A1 x.2.length c1) := HXo.out.cell 1
  go_wp2_with fail
  refine (mark_L_c _ _ x.2 _ _ R0 O1.out (fun b hb => Nat.lt_of_lt_of_le (Nat.lt_of_lt_of_le (HS0.out b (SUB1.out b hb)) HB0.out.size) HG1.out.size) (by omega) (by have := HCT.out; omega)).mono ?_
  rintro e w2 ⟨rfl, hs, hc⟩
  have HX : Hid (Blk w2 w.heap.size 69 #[.slice A0 x.1.length c0, .slice A1 x.2.length c1]) := (hc.block w.heap.size (by exact HXo.out.lt) (fun hb => Nat.lt_irrefl _ (HS0.out _ (SUB1.out _ hb)))).trans HXo.out
  have O0_ := Lib.hid (O0.out.keep fun b hb => hc.block b (Nat.lt_of_lt_of_le (Nat.lt_of_lt_of_le (HS0.out b (SUB0.out b hb)) HB0.out.size) HG1.out.size) (fun hb2 => DIS0_1.out b hb hb2)); clear O0; have O0 := O0_; clear O0_
  clear O1; have O1 := Lib.hid hs; clear hs
  have HG2 : Hid (Chg S (w.alloc (.cells #[.slice A0 x.1.length c0, .slice A1 x.2.length c1] 69)) w2) := HG1.out.trans (hc.mono SUB1.out)
  clear hc
  clear HXo
  have HXo := HX; clear HX
  clear x0 x1
  have x0 : w2.cell? ⟨w.heap.size, 0, none⟩ = some (.slice A0 x.1.length c0) := HXo.out.cell 0
  have x1 : w2.cell? ⟨w.heap.size, 1, none⟩ = some (.slice A1 x.2.length c1) := HXo.out.cell 1
  go_wp2
  go_ret
  refine ⟨ret_int (by have := HCT.out; omega), ?_, (Chg.of_below HB0.out).trans HG2.out⟩
  exact ⟨[_], _, S0, R0, rfl, p0, r0, ⟨A0, c0, congrArg (fun m => [Value.slice A0 m c0]) (show x.1.length = (mv_Tape x k).1.length from (mkL_len _ _ _ _).symm), O0.out⟩, ⟨A1, c1, congrArg (fun m => [Value.slice A1 m c1]) (show x.2.length = (mv_Tape x k).2.length from (mkL_len _ _ _ _).symm), O1.out⟩⟩

theorem cntL_const {α : Type} (c : α → Nat) (n : Nat) (xs : List α) (h : ∀ x, c x = n) : cntL c xs = n * xs.length := by
  unfold cntL
  induction xs with
  | nil => simp
  | cons x xs ih => rw [List.map_cons, List.sum_cons, ih, h, List.length_cons, Nat.mul_succ]; omega

theorem ct_cost_L (xs : List Int) : ct_L xs ≤ 4 * cost_L xs := by
  have := cntL_const ct_i 1 xs fun _ => rfl
  unfold ct_L cost_L; omega

/-- A slice of the call's own, from block `base` on, holding flat elements. -/
def Row {α : Type} (E : Enc α) (enc : α → List Value) (t : TypeId) (w : World) (base : Nat) (v : Value) (xs : List α) : Prop :=
  w.ownsRow base t E.size v xs.length (xs.flatMap enc) ∧ ∀ x ∈ xs, ∀ W : World, E.O W (fun _ => False) (enc x) x

theorem flat_get {α : Type} (enc : α → List Value) (s : Nat) : ∀ (xs : List α), (∀ x ∈ xs, (enc x).length = s) → ∀ (i : Nat) (x : α), xs[i]? = some x → ∀ j, j < s → (xs.flatMap enc)[i * s + j]? = (enc x)[j]?
  | [], _, i, x, hx, _, _ => by simp at hx
  | y :: ys, h, 0, x, hx, j, hj => by
    simp at hx; subst hx
    rw [List.flatMap_cons, Nat.zero_mul, Nat.zero_add, List.getElem?_append_left (by rw [h y (by simp)]; exact hj)]
  | y :: ys, h, i + 1, x, hx, j, hj => by
    have hy := h y (by simp)
    rw [List.flatMap_cons, Nat.succ_mul, List.getElem?_append_right (by rw [hy]; omega), hy, show i * s + s + j - s = i * s + j from by omega]
    exact flat_get enc s ys (fun z hz => h z (by simp [hz])) i x (by simpa using hx) j hj

theorem Row.so {α : Type} {E : Enc α} {enc : α → List Value} {t : TypeId} {w0 w : World} {v : Value} {xs : List α} (h : Row E enc t w w0.heap.size v xs) : ∃ A c, v = .slice A xs.length c ∧ So E w (Fr w0 w) A c xs := by
  obtain ⟨h1, h2⟩ := h
  rcases h1.2 with ⟨rfl, hn⟩ | ⟨g, cap, cur, rfl, hg, hh, hnc, hcm, hcs, htk⟩
  · have hx : xs = [] := List.eq_nil_of_length_eq_zero hn
    subst hx
    exact ⟨none, 0, rfl, So.nil (Nat.zero_le _)⟩
  · refine ⟨_, cap, rfl, hnc, hcm, fun hne => ⟨g, 0, t, cur, fun _ _ => False, rfl, ⟨hg, Blk.lt (t := t) (cur := cur) hh⟩, hh, fun _ _ h => h.elim, fun _ _ _ h => h.elim, fun i x hx => ⟨enc x, h2 x (List.mem_of_getElem? hx) w, fun j u hu => ?_⟩⟩⟩
    have hi := (List.getElem?_eq_some_iff.1 hx).1
    have hj := (List.getElem?_eq_some_iff.1 hu).1
    have hl : ∀ y ∈ xs, (enc y).length = E.size := fun y hy => E.len (E.read (h2 y hy w))
    rw [hl x (List.mem_of_getElem? hx)] at hj
    have h3 := flat_get enc E.size xs hl i x hx j hj
    rw [← htk] at h3
    have hlt : i * E.size + j < xs.length * E.size := by
      have : (i + 1) * E.size ≤ xs.length * E.size := Nat.mul_le_mul_right _ (by omega)
      rw [Nat.succ_mul] at this; omega
    rw [List.getElem?_take_of_lt hlt, Array.getElem?_toList] at h3
    rw [Nat.zero_add, h3]; exact hu

theorem Row.nil {α : Type} {E : Enc α} {enc : α → List Value} {t : TypeId} {w : World} {base : Nat} : Row E enc t w base (.slice none 0 0) [] := ⟨World.ownsRow_nil _ _ _ _, fun _ h => by simp at h⟩

/-- `[]T{}`: an empty row of its own. -/
theorem Row.empty {α : Type} {E : Enc α} {enc : α → List Value} {t : TypeId} {w : World} {base : Nat} (hb : base ≤ w.heap.size) : Row E enc t (w.alloc (.cells #[] t)) base (.slice (some ⟨w.heap.size, 0, none⟩) 0 0) [] :=
  ⟨⟨by simp, .inr ⟨_, 0, #[], rfl, hb, Blk.new w t #[], Nat.le_refl _, Nat.zero_le _, by simp, by simp⟩⟩, fun _ h => by simp at h⟩

def encInt (x : Int) : List Value := [.int .i64 x]

theorem Row.keep {α : Type} {E : Enc α} {enc : α → List Value} {t : TypeId} {w w' : World} {base : Nat} {v : Value} {xs : List α} (h : Row E enc t w base v xs) (hk : ∀ b, v.ownBlock = some b → w'.heap[b]? = w.heap[b]?) : Row E enc t w' base v xs := by
  obtain ⟨⟨h1, h2⟩, h3⟩ := h
  refine ⟨⟨h1, ?_⟩, h3⟩
  rcases h2 with h2 | ⟨g, cap, cur, rfl, hg, hh, r⟩
  · exact .inl h2
  · exact .inr ⟨g, cap, cur, rfl, hg, (hk g rfl).trans hh, r⟩

theorem Row.lt {α : Type} {E : Enc α} {enc : α → List Value} {t : TypeId} {w : World} {base : Nat} {v : Value} {xs : List α} (h : Row E enc t w base v xs) : ∀ b, v.ownBlock = some b → base ≤ b ∧ b < w.heap.size := h.1.lt

theorem Row.on {α : Type} {E : Enc α} {enc : α → List Value} {t : TypeId} {w w' : World} {base : Nat} {v : Value} {xs : List α} (h : Row E enc t w base v xs) (hb : Below w.heap.size w w') : Row E enc t w' base v xs := h.keep fun b hv => hb.block b (h.lt b hv).2

theorem Row.snoc {α : Type} {E : Enc α} {enc : α → List Value} {t : TypeId} {w w' : World} {base : Nat} {v v' : Value} {xs : List α} {x : α} (h : Row E enc t w base v xs) (ho : w'.ownsRow base t E.size v' (xs.length + 1) (xs.flatMap enc ++ enc x)) (hx : ∀ W : World, E.O W (fun _ => False) (enc x) x) : Row E enc t w' base v' (xs ++ [x]) := by
  refine ⟨?_, fun y hy => ?_⟩
  · rw [List.length_append, List.length_singleton, List.flatMap_append]
    simpa using ho
  · rcases List.mem_append.1 hy with h1 | h1
    · exact h.2 y h1
    · rw [List.mem_singleton.1 h1]; exact hx

/-- Elements whose cells lead nowhere. -/
structure Flat {α : Type} (E : Enc α) (enc : α → List Value) : Prop where
  r : ∀ {W : World} {S : Nat → Prop} {cs : List Value} {x : α}, E.R W S cs x → cs = enc x ∧ ∀ W' : World, E.O W' (fun _ => False) (enc x) x
  one : ∀ (x : α), ∀ u ∈ enc x, u.oneCell' = true

theorem flat_int : Flat eInt encInt := ⟨fun h => ⟨h.1, fun _ => ⟨rfl, h.2⟩⟩, fun x u hu => by simp [encInt] at hu; subst hu; rfl⟩

theorem flatMap_at {α : Type} (enc : α → List Value) (s : Nat) (hs : 0 < s) : ∀ (ys : List α), (∀ y ∈ ys, (enc y).length = s) → ∀ (j : Nat) (u : Value), (ys.flatMap enc)[j]? = some u → ∃ y, ys[j / s]? = some y ∧ (enc y)[j % s]? = some u
  | [], _, j, u, h => by simp at h
  | y :: ys, hl, j, u, h => by
    have hy := hl y (by simp)
    rw [List.flatMap_cons] at h
    by_cases hj : j < s
    · rw [List.getElem?_append_left (by omega)] at h
      exact ⟨y, by rw [Nat.div_eq_of_lt hj]; rfl, by rw [Nat.mod_eq_of_lt hj]; exact h⟩
    · rw [List.getElem?_append_right (by omega), hy] at h
      obtain ⟨z, h1, h2⟩ := flatMap_at enc s hs ys (fun z hz => hl z (by simp [hz])) (j - s) u h
      refine ⟨z, ?_, ?_⟩
      · rw [Nat.div_eq_sub_div hs (by omega), List.getElem?_cons_succ]; exact h1
      · rw [Nat.mod_eq_sub_mod (by omega)]; exact h2

theorem flatMap_len {α : Type} (enc : α → List Value) (s : Nat) (ys : List α) (h : ∀ y ∈ ys, (enc y).length = s) : (ys.flatMap enc).length = ys.length * s := by
  induction ys with
  | nil => simp
  | cons y ys ih => rw [List.flatMap_cons, List.length_append, ih (fun z hz => h z (by simp [hz])), h y (by simp), List.length_cons, Nat.succ_mul]; omega

theorem Flat.sl {α : Type} {E : Enc α} {enc : α → List Value} (hf : Flat E enc) {w : World} {S : Nat → Prop} {A : Option Addr} {c : Nat} {ys : List α} (h : Sl E w S A c ys) : ∀ y ∈ ys, ∀ W : World, E.O W (fun _ => False) (enc y) y := by
  intro y hy
  obtain ⟨i, hi, rfl⟩ := List.getElem_of_mem hy
  obtain ⟨b, off, es, _, _, h1, _⟩ := h.at hi
  exact (hf.r h1).2

theorem Flat.len {α : Type} {E : Enc α} {enc : α → List Value} {y : α} (h : ∀ W : World, E.O W (fun _ => False) (enc y) y) : (enc y).length = E.size := E.len (E.read (h default))

theorem Flat.cells {α : Type} {E : Enc α} {enc : α → List Value} (hf : Flat E enc) {w : World} {S : Nat → Prop} {b off : Nat} {c : Nat} {ys : List α} (h : Sl E w S (some ⟨b, off, none⟩) c ys) : ∀ j u, (ys.flatMap enc)[j]? = some u → w.cell? ((⟨b, off, none⟩ : Addr).add j) = some u := by
  intro j u hu
  obtain ⟨y, h1, h2⟩ := flatMap_at enc E.size E.pos ys (fun y hy => Flat.len (hf.sl h y hy)) j u hu
  have hi := (List.getElem?_eq_some_iff.1 h1).1
  obtain ⟨b', off', es, hA, _, h3, h4⟩ := h.at hi
  simp only [Option.some.injEq, Addr.mk.injEq, and_true] at hA
  obtain ⟨rfl, rfl⟩ := hA
  have hy : ys[j / E.size] = y := (List.getElem?_eq_some_iff.1 h1).2
  rw [hy] at h3
  rw [(hf.r h3).1] at h4
  have := h4 (j % E.size) u h2
  rw [show off + j / E.size * E.size + j % E.size = off + j from by rw [Nat.add_assoc, Nat.div_add_mod']] at this
  rw [Addr.add_lit]; exact this

/-- The facts on a type of elements that an append wants. -/
structure Elem {α : Type} (P : Program) (E : Enc α) (t e : TypeId) (bytes : Nat) : Prop where
  under : P.underlying t = some (.slice e)
  info : ∃ i z, P.info? e = some i ∧ i.zero = some z ∧ i.size = E.size ∧ i.bytes = bytes ∧ z.cells.size = E.size

theorem Row.all {α : Type} {E : Enc α} {enc : α → List Value} {t : TypeId} {w : World} {base : Nat} {v : Value} {xs ys : List α} (h : Row E enc t w base v xs) {w' : World} {v' : Value} (ho : w'.ownsRow base t E.size v' (xs.length + ys.length) (xs.flatMap enc ++ ys.flatMap enc)) (hy : ∀ y ∈ ys, ∀ W : World, E.O W (fun _ => False) (enc y) y) : Row E enc t w' base v' (xs ++ ys) := by
  refine ⟨by rw [List.length_append, List.flatMap_append]; exact ho, fun y hm => ?_⟩
  rcases List.mem_append.1 hm with h1 | h1
  · exact h.2 y h1
  · exact hy y h1

theorem Row.shape {α : Type} {E : Enc α} {enc : α → List Value} {t : TypeId} {w : World} {base : Nat} {v : Value} {xs : List α} (h : Row E enc t w base v xs) : ∃ A c, v = .slice A xs.length c ∧ xs.length ≤ c ∧ c ≤ maxLen := by
  rcases h.1.2 with ⟨rfl, hn⟩ | ⟨g, cap, cur, rfl, hg, hh, hnc, hcm, _⟩
  · exact ⟨none, 0, by rw [hn], by omega, Nat.zero_le _⟩
  · exact ⟨_, cap, rfl, hnc, hcm⟩

theorem run_append_row {α : Type} {P : Program} {E : Enc α} {enc : α → List Value} (hf : Flat E enc) {t e : TypeId} {bytes : Nat} (he : Elem P E t e bytes) (ty : TypeId) {w : World} {base : Nat} {v : Value} {xs ys : List α} (hR : Row E enc e w base v xs)
    {S : Nat → Prop} {A : Option Addr} {c : Nat} (hS : Sl E w S A c ys) (h63 : xs.length + ys.length ≤ maxLen) (hbytes : (xs.length + ys.length) * bytes ≤ 140737488355328) (hbase : base ≤ w.heap.size) :
    ∃ v' w', (Builtin.append_ #[t, t] ty #[v, .slice A ys.length c]).run P w = .ok v' w' ∧ Row E enc e w' base v' (xs ++ ys) ∧ w.grownBy w' v.ownBlock ∧ (v'.ownBlock = v.ownBlock ∨ v'.ownBlock = some w.heap.size) := by
  obtain ⟨i, z, hi, hz0, hz1, hz2, hz3⟩ := he.info
  have hlen : ∀ y ∈ ys, (enc y).length = E.size := fun y hy => Flat.len (hf.sl hS y hy)
  cases A with
  | none =>
    have hy : ys = [] := Classical.byContradiction fun hn => by
      obtain ⟨b, off, hA, _⟩ := hS.2.2 hn
      cases hA
    subst hy
    obtain ⟨A', c', rfl, hle, _⟩ := hR.shape
    refine ⟨_, w, run_append_nothing w t t ty e i he.under hi A' xs.length c' hle (.slice none 0 c) (Src.ofNil w he.under c), by rw [List.append_nil]; exact hR, World.grownBy.refl _ _, .inl rfl⟩
  | some ad =>
    obtain ⟨b, off, sp⟩ := ad
    by_cases hn : ys = []
    · subst hn
      obtain ⟨v', w', h1, h2, h3, h4, h5⟩ := run_append_own_at (P := P) w base t ty e i z E.size bytes he.under hi hz0 hz1 hz2 hz3 E.pos v xs.length (xs.flatMap enc) hR.1 ⟨b, off, sp⟩ 0 c [] (by simp) (fun j u h => by simp at h) (fun u h => by simp at h) h63 hbytes hbase
      exact ⟨v', w', h1, hR.all h2 (fun y hy => by simp at hy), h3, h5⟩
    · obtain ⟨b', off', hA, _⟩ := hS.2.2 hn
      simp only [Option.some.injEq, Addr.mk.injEq] at hA
      obtain ⟨rfl, rfl, rfl⟩ := hA
      obtain ⟨v', w', h1, h2, h3, h4, h5⟩ := run_append_own_at (P := P) w base t ty e i z E.size bytes he.under hi hz0 hz1 hz2 hz3 E.pos v xs.length (xs.flatMap enc) hR.1 ⟨b, off, none⟩ ys.length c (ys.flatMap enc) (flatMap_len enc E.size ys hlen) (hf.cells hS)
        (fun u hu => by obtain ⟨y, _, h⟩ := List.mem_flatMap.1 hu; exact hf.one y u h) h63 hbytes hbase
      exact ⟨v', w', h1, hR.all h2 (hf.sl hS), h3, h5⟩

theorem wpList_append_row {α : Type} {P : Program} {E : Enc α} {enc : α → List Value} (hf : Flat E enc) {t e : TypeId} {bytes : Nat} (he : Elem P E t e bytes) {ops : Array Oper} {rest : List Oper} {o : Oper} {a : Act} {Q : Exit → Act → World → Prop} {w : World} (hgd : o.guard = none) (s x : Operand)
    (ho : o.op = .call { callee := .builtin .append, args := #[s, x], argTypes := #[t, t] }) {base : Nat} {v : Value} {xs ys : List α} (hs : a.eval s = v) (hR : Row E enc e w base v xs)
    {S : Nat → Prop} {A : Option Addr} {c : Nat} (hx : a.eval x = .slice A ys.length c) (hS : Sl E w S A c ys) (h63 : xs.length + ys.length ≤ maxLen) (hbytes : (xs.length + ys.length) * bytes ≤ 140737488355328) (hbase : base ≤ w.heap.size)
    (h : ∀ v' w', Row E enc e w' base v' (xs ++ ys) → w.grownBy w' v.ownBlock → (v'.ownBlock = v.ownBlock ∨ v'.ownBlock = some w.heap.size) → wpList P ops Q rest (a.put o.dst v') w') :
    wpList P ops Q (o :: rest) a w := by
  refine wpList_plain hgd fun K hK => ?_
  obtain ⟨v', w', hr, h2, h3, h4⟩ := run_append_row hf he o.type hR hS h63 hbytes hbase
  unfold Oper.wp execOp
  simp only [ho, resolve, invoke, builtin, Sem.run_bind, Sem.run_pure, Result.andThen_ok, List.map_toArray, List.map_cons, List.map_nil, hs, hx, hr]
  exact hK _ _ (h v' w' h2 h3 h4)

theorem step_append_row {α : Type} {P : Program} {E : Enc α} {enc : α → List Value} (hf : Flat E enc) {t e : TypeId} {bytes : Nat} (he : Elem P E t e bytes) {ops : Array Oper} {o : Oper} {a : Act} {K : Act → World → Prop} {Q : Exit → Act → World → Prop} {F : Prop} {w : World} (hgd : o.guard = none) (s x : Operand)
    (ho : o.op = .call { callee := .builtin .append, args := #[s, x], argTypes := #[t, t] }) {base : Nat} {v : Value} {xs ys : List α} (hs : a.eval s = v) (hR : Row E enc e w base v xs)
    {S : Nat → Prop} {A : Option Addr} {c : Nat} (hx : a.eval x = .slice A ys.length c) (hS : Sl E w S A c ys) (h63 : xs.length + ys.length ≤ maxLen) (hbytes : (xs.length + ys.length) * bytes ≤ 140737488355328) (hbase : base ≤ w.heap.size)
    (h : ∀ v' w', Row E enc e w' base v' (xs ++ ys) → w.grownBy w' v.ownBlock → (v'.ownBlock = v.ownBlock ∨ v'.ownBlock = some w.heap.size) → K (a.put o.dst v') w') :
    if Region.wanted o (yielded ops a.tmps) = true then Oper.wp P o a w K Q else F := by
  have hw : Region.wanted o (yielded ops a.tmps) = true := by simp [Region.wanted, hgd]
  rw [if_pos hw]
  obtain ⟨v', w', hr, h2, h3, h4⟩ := run_append_row hf he o.type hR hS h63 hbytes hbase
  unfold Oper.wp execOp
  simp only [ho, resolve, invoke, builtin, Sem.run_bind, Sem.run_pure, Result.andThen_ok, List.map_toArray, List.map_cons, List.map_nil, hs, hx, hr]
  exact h v' w' h2 h3 h4

/-- One element, laid in a block of its own, as a slice to be appended. -/
theorem sl_one {w : World} {S : Nat → Prop} {g : Nat} {t : TypeId} {x : Int} (hB : Blk w g t #[.int .i64 x]) (hg : S g) (hx : I64 x) : Sl eInt w S (some ⟨g, 0, none⟩) 1 [x] :=
  ⟨Nat.le_refl _, by unfold maxLen; decide, fun _ => ⟨g, 0, rfl, hg, fun i y hy => by
    rcases i with _ | i
    · simp at hy; subst hy
      refine ⟨[.int .i64 x], ⟨rfl, hx⟩, fun j v hv => ?_⟩
      rcases j with _ | j
      · simp at hv; subst hv; exact hB.cell 0
      · simp at hv
    · simp at hy⟩⟩

theorem So.take {α : Type} {E : Enc α} {w : World} {S : Nat → Prop} {A : Option Addr} {c : Nat} {xs : List α} (h : So E w S A c xs) (k : Nat) : So E w S A c (xs.take k) :=
  ⟨by have := h.1; rw [List.length_take]; omega, h.2.1, fun hn => by
    obtain ⟨b, off, t, cur, T, hA, hb, hB, hT, hd, hc⟩ := h.2.2 (by rintro rfl; simp at hn)
    refine ⟨b, off, t, cur, T, hA, hb, hB, hT, hd, fun i x hx => hc i x ?_⟩
    rw [List.getElem?_take] at hx
    split at hx
    · exact hx
    · cases hx⟩

theorem Sl.take {α : Type} {E : Enc α} {w : World} {S : Nat → Prop} {A : Option Addr} {c : Nat} {xs : List α} (h : Sl E w S A c xs) (k : Nat) : Sl E w S A c (xs.take k) :=
  ⟨by have := h.1; rw [List.length_take]; omega, h.2.1, fun hn => by
    obtain ⟨b, off, hA, hb, hc⟩ := h.2.2 (by rintro rfl; simp at hn)
    refine ⟨b, off, hA, hb, fun i x hx => hc i x ?_⟩
    rw [List.getElem?_take] at hx
    split at hx
    · exact hx
    · cases hx⟩

theorem So.drop1 {α : Type} {E : Enc α} {w : World} {S : Nat → Prop} {b off : Nat} {c : Nat} {xs : List α} (h : So E w S (some ⟨b, off, none⟩) c xs) (k : Nat) : So E w S (some ⟨b, off + k * E.size, none⟩) (c - k) (xs.drop k) :=
  ⟨by have := h.1; rw [List.length_drop]; omega, by have := h.2.1; omega, fun hn => by
    obtain ⟨b', off', t, cur, T, hA, hb, hB, hT, hd, hc⟩ := h.2.2 (by rintro rfl; simp at hn)
    simp only [Option.some.injEq, Addr.mk.injEq, and_true] at hA
    obtain ⟨rfl, rfl⟩ := hA
    refine ⟨b, _, t, cur, fun i => T (k + i), rfl, hb, hB, fun i => hT _, fun i j m h1 h2 => by have := hd _ _ _ h1 h2; omega, fun i x hx => ?_⟩
    rw [List.getElem?_drop] at hx
    obtain ⟨es, h1, h2⟩ := hc _ x hx
    refine ⟨es, h1, fun j v hv => ?_⟩
    have := h2 j v hv
    rw [Nat.add_mul, ← Nat.add_assoc] at this
    exact this⟩

theorem Sl.drop1 {α : Type} {E : Enc α} {w : World} {S : Nat → Prop} {b off : Nat} {c : Nat} {xs : List α} (h : Sl E w S (some ⟨b, off, none⟩) c xs) (k : Nat) : Sl E w S (some ⟨b, off + k * E.size, none⟩) (c - k) (xs.drop k) :=
  ⟨by have := h.1; rw [List.length_drop]; omega, by have := h.2.1; omega, fun hn => by
    obtain ⟨b', off', hA, hb, hc⟩ := h.2.2 (by rintro rfl; simp at hn)
    simp only [Option.some.injEq, Addr.mk.injEq, and_true] at hA
    obtain ⟨rfl, rfl⟩ := hA
    refine ⟨b, _, rfl, hb, fun i x hx => ?_⟩
    rw [List.getElem?_drop] at hx
    obtain ⟨es, h1, h2⟩ := hc _ x hx
    refine ⟨es, h1, fun j v hv => ?_⟩
    have := h2 j v hv
    rw [Nat.add_mul, ← Nat.add_assoc] at this
    exact this⟩

/-- One number of an owned slice rewritten. -/
theorem So.setI {w : World} {S : Nat → Prop} {b off c : Nat} {xs : List Int} (h : So eInt w S (some ⟨b, off, none⟩) c xs) {k : Nat} (hk : k < xs.length) {y : Int} (hy : I64 y) : So eInt (w.setCell ⟨b, off + k, none⟩ (.int .i64 y)) S (some ⟨b, off, none⟩) c (xs.set k y) := by
  obtain ⟨b', off', t, cur, T, es, hA, hb, hB, hT, hO, hcells, hre⟩ := h.at hk
  simp only [Option.some.injEq, Addr.mk.injEq, and_true] at hA
  obtain ⟨rfl, rfl⟩ := hA
  refine hre _ [.int .i64 y] y ⟨rfl, hy⟩ ?_ (fun m hm hne _ => Below.heap_setCell _ _ _ _ hne)
  rw [show off + k * eInt.size = off + k from by show off + k * 1 = _; omega]
  exact hB.set _ _

/-- What an owned slice of numbers holds, and that it may be written. -/
theorem So.getI {w : World} {S : Nat → Prop} {A : Option Addr} {c : Nat} {xs : List Int} (h : So eInt w S A c xs) {k : Nat} (hk : k < xs.length) : ∃ b off, A = some ⟨b, off, none⟩ ∧ S b ∧ I64 xs[k] ∧ w.cell? ⟨b, off + k, none⟩ = some (.int .i64 xs[k]) ∧ w.frozen? ⟨b, off + k, none⟩ = false := by
  obtain ⟨b, off, t, cur, T, es, rfl, hb, hB, hT, hO, hcells, _⟩ := h.at hk
  obtain ⟨rfl, hi⟩ := hO
  refine ⟨b, off, rfl, hb, hi, ?_, hB.frozen _⟩
  have := hcells 0 _ rfl
  rw [show off + k * eInt.size + 0 = off + k from by show off + k * 1 + 0 = _; omega] at this
  rw [hB.cell]; exact this

theorem elem_Int64 : Elem Try.prog eInt 23 2 8 := by
  obtain ⟨i0, hi0, hz0, hz1, hz2⟩ := info_parts info_impl_Int64
  exact ⟨Try.underlying23, i0, _, hi0, hz0, hz1, hz2, rfl⟩

set_option maxHeartbeats 400000 in
theorem spec_l00Own (A : Option Addr) (c : Nat) (xs : List Int) (w : World) (h : Sl eInt w (Old w) A c xs) (hsm : xs.length ≤ 1000000000000) :
    Calls Try.prog 118 #[.slice A xs.length c] w fun e w' => ∃ A' c', e = .returned (.slice A' xs.length c') ∧ So eInt w' (Fr w w') A' c' xs ∧ Below w.heap.size w w' := by
  have H := Lib.hid (h.on (below_alloc (Below.refl _ _) (.cells #[] 2))); clear h
  go_enter Try.func118, Try.ntmps118
  go_wp2_with (at_builtin; refine wpList_append_row flat_int elem_Int64 rfl _ _ rfl (base := w.heap.size) rfl (Row.empty (Nat.le_refl _)) rfl H.out (by simp only [List.length_nil]; unfold maxLen; omega) (by simp only [List.length_nil]; omega) (by simp) ?_)
  intro v' w1 hrow hgrow hat
  try rw [List.nil_append] at hrow
  obtain ⟨A', c', rfl, hso⟩ := hrow.so
  have HO := Lib.hid hso
  have HL : Hid (Below w.heap.size w w1) := ((Below.refl _ w).alloc (Nat.le_refl _) _).grown hgrow (by simp) (by intro k hk; simp [Value.ownBlock] at hk; omega)
  clear hrow hgrow hat hso
  go_wp2
  go_ret
  exact ⟨A', c', rfl, HO.out, HL.out⟩

set_option maxHeartbeats 400000 in
theorem Clone_Int64 (A : Option Addr) (c : Nat) (xs : List Int) (w : World) (h : Sl eInt w (Old w) A c xs) (hsm : xs.length ≤ 1000000000000) :
    Calls Try.prog 119 #[.slice A xs.length c] w fun e w' => ∃ A' c', e = .returned (.slice A' xs.length c') ∧ So eInt w' (Fr w w') A' c' xs ∧ Below w.heap.size w w' := by
  have q22 : ∀ (w : World) (a : Option Addr) (n c n' c' : Nat), (binOp .eql 23 (.slice a n c) (.slice none n' c')).run Try.prog w = .ok (.bool a.isNone) w := fun w a n c n' c' => Lib.run_eql_slice_nil w _ _ a n c n' c' Try.underlying23
  cases A with
  | none =>
    have hx : xs = [] := Classical.byContradiction fun hn => by
      obtain ⟨b, off, hA, _⟩ := h.2.2 hn
      cases hA
    subst hx
    clear h
    go_enter Try.func119, Try.ntmps119
    go_wp2
    go_ret
    exact ⟨none, 0, rfl, So.nil (Nat.zero_le _), Below.refl _ _⟩
  | some ad =>
    have H := Lib.hid (h.on (below_alloc (Below.refl _ _) (.cells #[] 2))); clear h
    go_enter Try.func119, Try.ntmps119
    go_wp2_with (at_builtin; refine wpList_append_row flat_int elem_Int64 rfl _ _ rfl (base := w.heap.size) rfl (Row.empty (Nat.le_refl _)) rfl H.out (by simp only [List.length_nil]; unfold maxLen; omega) (by simp only [List.length_nil]; omega) (by simp) ?_)
    intro v' w1 hrow hgrow hat
    try rw [List.nil_append] at hrow
    obtain ⟨A', c', rfl, hso⟩ := hrow.so
    have HO := Lib.hid hso
    have HL : Hid (Below w.heap.size w w1) := ((Below.refl _ w).alloc (Nat.le_refl _) _).grown hgrow (by simp) (by intro k hk; simp [Value.ownBlock] at hk; omega)
    clear hrow hgrow hat hso
    go_wp2
    go_ret
    exact ⟨A', c', rfl, HO.out, HL.out⟩

/-- Zeros struck off at the end. -/
def trimZ (xs : List Int) : List Int := (xs.reverse.dropWhile (· == 0)).reverse

/-- Zeros struck off in front. -/
def leadZ (xs : List Int) : List Int := xs.dropWhile (· == 0)

theorem trimZ_zero (xs : List Int) (k : Nat) (h : k < xs.length) (h0 : xs[k] = 0) : trimZ (xs.take (k + 1)) = trimZ (xs.take k) := by
  unfold trimZ
  rw [List.take_succ_eq_append_getElem h, h0, List.reverse_append]; rfl

theorem trimZ_stop (xs : List Int) (k : Nat) (h : k < xs.length) (h0 : xs[k] ≠ 0) : trimZ (xs.take (k + 1)) = xs.take (k + 1) := by
  unfold trimZ
  rw [List.take_succ_eq_append_getElem h, List.reverse_append]
  show (List.dropWhile (· == 0) (xs[k] :: (xs.take k).reverse)).reverse = _
  rw [List.dropWhile_cons_of_neg (by simpa using h0)]; simp

theorem impl_trimmed (A : Option Addr) (c : Nat) (xs : List Int) (w : World) (h : Sl eInt w (Old w) A c xs) :
    Calls Try.prog 103 #[.slice A xs.length c] w fun e w' => e = .returned (.slice A (trimZ xs).length c) ∧ (∃ k, trimZ xs = xs.take k) ∧ w = w' := by
  have hlen := h.len
  have hcap := h.cap
  have hmax := h.2.1
  have H := Lib.hid h; clear h
  go_enter Try.func103, Try.ntmps103
  go_wp2
  go_loop [0] (fun s0 => ∃ k : Nat, k ≤ xs.length ∧ s0 = .slice A k c ∧ Hid (trimZ (xs.take k) = trimZ xs)) (fun s0 => match s0 with | .slice _ n _ => n | _ => 0)
  case atStart => exact ⟨xs.length, Nat.le_refl _, rfl, by show _ = _; rw [List.take_length]⟩
  case round =>
    obtain ⟨k, hk, rfl, HN⟩ := hrel
    rcases k with _ | k
    · have HF : Hid (trimZ xs = []) := by show _ = _; rw [← HN.out]; rfl
      go_wp2
      go_ret
      exact ⟨by rw [HF.out]; rfl, ⟨0, by rw [HF.out]; rfl⟩, rfl⟩
    · have hlt : k < xs.length := by omega
      obtain ⟨b, off, es, rfl, hb, ⟨rfl, _⟩, hc⟩ := H.out.at1 rfl hlt
      have d0 : w.cell? ⟨b, off + k, none⟩ = some (.int .i64 xs[k]) := hc _ rfl
      clear hc
      have HZ := Lib.hid (trimZ_zero xs k hlt)
      have HS := Lib.hid (trimZ_stop xs k hlt)
      generalize xs[k] = y at d0 HZ HS
      cases q : (y == 0)
      · have HF : Hid (trimZ xs = xs.take (k + 1)) := by show _ = _; rw [← HN.out, HS.out (by simpa using q)]
        go_wp2
        go_ret
        exact ⟨by rw [HF.out, List.length_take, show min (k + 1) xs.length = k + 1 from by omega]; rfl, ⟨k + 1, HF.out⟩, rfl⟩
      · go_wp2
        go_round
        case rel => exact ⟨k, by omega, by go_num, by show _ = _; rw [← HN.out, HZ.out (by simpa using q)]⟩
        case measure => simp

theorem spec_l02Trim (A : Option Addr) (c : Nat) (xs : List Int) (w : World) (h : Sl eInt w (Old w) A c xs) :
    Calls Try.prog 167 #[.slice A xs.length c] w fun e w' => e = .returned (.slice A (trimZ xs).length c) ∧ (∃ k, trimZ xs = xs.take k) ∧ w = w' := by
  have hlen := h.len
  have hcap := h.cap
  have hmax := h.2.1
  have H := Lib.hid h; clear h
  go_enter Try.func167, Try.ntmps167
  go_wp2
  go_loop [3] (fun s3 => ∃ k : Nat, k ≤ xs.length ∧ s3 = .int .i64 k ∧ Hid (trimZ (xs.take k) = trimZ xs)) (fun s3 => (intOf s3).toNat)
  case atStart => exact ⟨xs.length, Nat.le_refl _, rfl, by show _ = _; rw [List.take_length]⟩
  case round =>
    obtain ⟨k, hk, rfl, HN⟩ := hrel
    have hkc : (k : Int) ≤ (c : Int) := by omega
    rcases k with _ | k
    · have HF : Hid (trimZ xs = []) := by show _ = _; rw [← HN.out]; rfl
      go_wp2
      go_ret
      exact ⟨by rw [HF.out]; rfl, ⟨0, by rw [HF.out]; rfl⟩, rfl⟩
    · have hlt : k < xs.length := by omega
      have hltz : (k : Int) < (xs.length : Int) := by omega
      obtain ⟨b, off, es, rfl, hb, ⟨rfl, _⟩, hc⟩ := H.out.at1 rfl hlt
      have d0 : w.cell? ⟨b, off + k, none⟩ = some (.int .i64 xs[k]) := hc _ rfl
      clear hc
      have HZ := Lib.hid (trimZ_zero xs k hlt)
      have HS := Lib.hid (trimZ_stop xs k hlt)
      generalize xs[k] = y at d0 HZ HS
      cases q : (y == 0)
      · have HF : Hid (trimZ xs = xs.take (k + 1)) := by show _ = _; rw [← HN.out, HS.out (by simpa using q)]
        go_wp2
        go_ret
        exact ⟨by rw [HF.out, List.length_take, show min (k + 1) xs.length = k + 1 from by omega]; rfl, ⟨k + 1, HF.out⟩, rfl⟩
      · go_wp2
        go_round
        case rel => exact ⟨k, by omega, by go_num, by show _ = _; rw [← HN.out, HZ.out (by simpa using q)]⟩
        case measure => simp [intOf]

set_option maxRecDepth 100000 in
set_option maxHeartbeats 1000000 in
theorem slices_Grow_nil (n : Nat) (w : World) (hn : n ≤ 1000000000000) :
    Calls Try.prog 177 #[.slice none 0 0, .int .i64 n] w fun e w' => ∃ v, e = .returned v ∧ Row eInt encInt 2 w' w.heap.size v [] ∧ Below w.heap.size w w' := by
  obtain ⟨i0, hi0, hz0, hz1, hz2⟩ := info_parts info_impl_Int64
  by_cases h0 : n = 0
  · subst h0
    go_enter Try.func177, Try.ntmps177
    go_wp2
    go_ret
    exact ⟨_, rfl, Row.nil, Below.refl _ _⟩
  · have hpos : (0 : Int) < (n : Int) := by omega
    have hrun := Lib.run_append_nil_zeros (P := Try.prog) w 23 3 23 2 i0 _ .i64 .i64 Try.underlying23 Try.underlying3 hi0 hz0 n (by omega) (by omega) (by omega) (by rw [hz2]; omega)
    have hge := grownCap_ge w n 0 2
    have hle := grownCap_le_maxLen w n 0 2 (by unfold maxLen; omega)
    have hB := Blk.new w.drew 2 (Builtin.zeroCells (Value.int .i64 0).cells n ++ Builtin.zeroCells (Value.int .i64 0).cells (grownCap w n 0 2 - n))
    have hsz : (Builtin.zeroCells (Value.int .i64 0).cells n ++ Builtin.zeroCells (Value.int .i64 0).cells (grownCap w n 0 2 - n)).size = grownCap w n 0 2 := by
      have : (Value.int IntKind.i64 0).cells.size = 1 := rfl
      simp only [Array.size_append, size_zeroCells, this]; omega
    have HL : Hid (Below w.heap.size w (w.drew.alloc (.cells (Builtin.zeroCells (Value.int .i64 0).cells n ++ Builtin.zeroCells (Value.int .i64 0).cells (grownCap w n 0 2 - n)) 2))) := ((Below.refl _ w).drew).alloc (Nat.le_refl _) _
    generalize hZ : (Builtin.zeroCells (Value.int .i64 0).cells n ++ Builtin.zeroCells (Value.int .i64 0).cells (grownCap w n 0 2 - n)) = Z at *
    generalize hG : grownCap w n 0 2 = cap at *
    clear hZ hG
    have HW := Lib.hid hB; clear hB
    have HSZ := Lib.hid hsz; clear hsz
    have hcap0 : (0 : Int) ≤ (cap : Int) := by omega
    have HR : Hid (Row eInt encInt 2 (w.drew.alloc (.cells Z 2)) w.heap.size (.slice (some ⟨w.heap.size, 0, none⟩) 0 cap) []) := ⟨⟨by simp, .inr ⟨_, cap, Z, rfl, Nat.le_refl _, HW.out, Nat.zero_le _, hle, by rw [HSZ.out]; show cap = cap * 1; omega, by simp⟩⟩, fun _ h => by simp at h⟩
    go_enter Try.func177, Try.ntmps177
    go_wp2_with (at_builtin; refine Lib.wpList_append_run _ rfl _ _ _ _ rfl _ _ rfl rfl _ _ hrun ?_)
    clear hrun
    go_wp2
    go_ret
    exact ⟨_, rfl, HR.out, HL.out⟩

set_option maxRecDepth 100000 in
set_option maxHeartbeats 2000000 in
theorem slices_Concat (A : Option Addr) (c : Nat) (xss : List (List Int)) (w : World) (h : Sl (eSl eInt) w (Old w) A c xss) (hsm : (xss.map List.length).sum ≤ 1000000000000) :
    Calls Try.prog 155 #[.slice A xss.length c] w fun e w' => ∃ A' c', e = .returned (.slice A' xss.flatten.length c') ∧ So eInt w' (Fr w w') A' c' xss.flatten ∧ Below w.heap.size w w' := by
  have hlen := h.len
  have H := Lib.hid h; clear h
  go_enter Try.func155, Try.ntmps155
  go_wp2
  go_loop [3, 5, 11] (fun s3 _ s11 => ∃ k m : Nat, k ≤ xss.length ∧ s11 = .int .i64 k ∧ s3 = .int .i64 m ∧ m ≤ 1000000000000 ∧ Hid (m = ((xss.take k).map List.length).sum)) (fun _ _ s11 => xss.length - (intOf s11).toNat)
  case atStart => exact ⟨0, 0, Nat.zero_le _, rfl, rfl, by omega, rfl⟩
  case round =>
    obtain ⟨k, m, hk, rfl, rfl, hm, HM⟩ := hrel
    by_cases hlt : k < xss.length
    · have hltz : (k : Int) < (xss.length : Int) := by omega
      obtain ⟨b, off, es, rfl, hb, hR, hc⟩ := H.out.at1 rfl hlt
      obtain ⟨A1, c1, rfl, g1⟩ := hR
      have d0 : w.cell? ⟨b, off + k, none⟩ = some (.slice A1 xss[k].length c1) := hc _ rfl
      have h1 := costL_take List.length xss k hlt
      have h2 := cost_le List.length xss (k + 1)
      have HM2 : Hid (m + xss[k].length = ((xss.take (k + 1)).map List.length).sum) := by show _ = _; rw [h1, HM.out]
      have hm2 : m + xss[k].length ≤ 1000000000000 := by rw [HM2.out]; omega
      clear hc g1 h1 h2
      generalize xss[k] = y at d0 HM2 hm2
      have hnn : ¬ ((m : Int) + (y.length : Int) < 0) := by omega
      go_wp2
      go_round
      case rel => exact ⟨k + 1, m + y.length, by omega, by go_num, by go_num, hm2, HM2.out⟩
      case measure => simp [intOf]; omega
    · have hltz : ¬ (k : Int) < (xss.length : Int) := by omega
      obtain rfl : k = xss.length := by omega
      clear hltz hlt hk HM
      go_wp2_with (go_at_call 177; refine (slices_Grow_nil m w hm).mono ?_; rintro e w1 ⟨v, rfl, hrow, hb⟩)
      have HR := Lib.hid hrow
      have HL := Lib.hid hb
      clear hrow hb
      go_loopw [6, 8, 27] (fun s6 _ s27 wr => ∃ k : Nat, k ≤ xss.length ∧ s27 = .int .i64 k ∧ Hid (Row eInt encInt 2 wr w.heap.size s6 ((xss.take k).flatten)) ∧ Hid (Below w.heap.size w wr)) (fun _ _ s27 _ => xss.length - (intOf s27).toNat)
      case atStart => exact ⟨0, Nat.zero_le _, rfl, HR, HL⟩
      case round =>
        clear HR HL
        obtain ⟨k, hk, rfl, HR, BW⟩ := hrel
        by_cases hlt : k < xss.length
        · have hltz : (k : Int) < (xss.length : Int) := by omega
          obtain ⟨b, off, es, rfl, hb, hR, hc⟩ := H.out.at1 rfl hlt
          obtain ⟨A1, c1, rfl, g1⟩ := hR
          have d0 : wr.cell? ⟨b, off + k, none⟩ = some (.slice A1 xss[k].length c1) := (below_olds BW.out _ hb).trans (hc _ rfl)
          have HG := Lib.hid (g1.on BW.out)
          have h1 := costL_take List.length xss k hlt
          have h2 := cost_le List.length xss (k + 1)
          have hl1 : (xss.take k).flatten.length + xss[k].length ≤ 1000000000000 := by rw [List.length_flatten]; omega
          have HF : Hid ((xss.take (k + 1)).flatten = (xss.take k).flatten ++ xss[k]) := by show _ = _; rw [List.take_succ_eq_append_getElem hlt, List.flatten_append]; simp
          clear hc g1 h1 h2
          generalize xss[k] = y at d0 HF HG hl1
          have hbase := BW.out.size
          go_wp2_with (at_builtin; refine wpList_append_row flat_int elem_Int64 rfl _ _ rfl (base := w.heap.size) rfl HR.out rfl HG.out (by unfold maxLen; omega) (by omega) hbase ?_)
          intro v' w2 hrow hgrow hat
          have HR2 : Hid (Row eInt encInt 2 w2 w.heap.size v' ((xss.take (k + 1)).flatten)) := by show Row _ _ _ _ _ _ _; rw [HF.out]; exact hrow
          have HL2 : Hid (Below w.heap.size w w2) := BW.out.grown hgrow hbase (fun b hb => (HR.out.lt b hb).1)
          clear hrow hgrow hat
          go_wp2
          go_roundw
          case rel => exact ⟨k + 1, by omega, by go_num, HR2.out, HL2.out⟩
          case measure => simp [intOf]; omega
        · have hltz : ¬ (k : Int) < (xss.length : Int) := by omega
          obtain rfl : k = xss.length := by omega
          have h3 := HR.out
          rw [List.take_length] at h3
          obtain ⟨A', c', rfl, hso⟩ := h3.so
          have HO := Lib.hid hso; clear hso h3 HR
          go_wp2
          go_ret
          exact ⟨A', c', rfl, HO.out, BW.out⟩

theorem impl_joined (A : Option Addr) (c : Nat) (xss : List (List Int)) (w : World) (h : Sl (eSl eInt) w (Old w) A c xss) (hsm : (xss.map List.length).sum ≤ 1000000000000) :
    Calls Try.prog 104 #[.slice A xss.length c] w fun e w' => ∃ A' c', e = .returned (.slice A' xss.flatten.length c') ∧ So eInt w' (Fr w w') A' c' xss.flatten ∧ Below w.heap.size w w' := by
  have HC := Lib.hid (slices_Concat A c xss w h hsm); clear h
  go_enter Try.func104, Try.ntmps104
  go_wp2_with (go_at_call 155; refine HC.out.mono ?_; rintro e w1 ⟨A', c', rfl, hso, hb⟩)
  go_ret
  exact ⟨A', c', by rw [List.length_flatten]; rfl, hso, hb⟩

/-- What the reversing loop has made after k rounds. -/
def RevTo (xs : List Int) (k : Nat) (ys : List Int) : Prop := ys.length = xs.length ∧ ∀ p, p < xs.length → ys[p]? = if p < k ∨ xs.length < p + k + 1 then xs[xs.length - 1 - p]? else xs[p]?

theorem revTo_zero (xs : List Int) : RevTo xs 0 xs := ⟨rfl, fun p hp => by rw [if_neg (by omega)]⟩

theorem revTo_end {xs ys : List Int} {k : Nat} (h : RevTo xs k ys) (hk : xs.length ≤ 2 * k + 1) : ys = xs.reverse := by
  apply List.ext_getElem?
  intro p
  by_cases hp : p < xs.length
  · rw [h.2 p hp, List.getElem?_reverse hp]
    split
    · rfl
    · rw [show xs.length - 1 - p = p from by omega]
  · rw [List.getElem?_eq_none (by rw [h.1]; omega), List.getElem?_eq_none (by simp; omega)]

theorem revTo_step {xs ys : List Int} {k m : Nat} (h : RevTo xs k ys) (hm : m + k + 1 = xs.length) (hkm : k < m) (h1 : k < ys.length) (h2 : m < ys.length) : RevTo xs (k + 1) ((ys.set k ys[m]).set m ys[k]) := by
  refine ⟨by simp [h.1], fun p hp => ?_⟩
  have hy : ∀ q (hq : q < ys.length), some ys[q] = ys[q]? := fun q hq => (List.getElem?_eq_getElem hq).symm
  by_cases e1 : p = m
  · subst e1
    rw [List.getElem?_set_self (by simpa using h2), hy, h.2 k (by omega), if_neg (by omega), if_pos (by omega), show xs.length - 1 - p = k from by omega]
  · rw [List.getElem?_set_ne (fun e => e1 e.symm)]
    by_cases e2 : p = k
    · subst e2
      rw [List.getElem?_set_self h1, hy, h.2 m (by omega), if_neg (by omega), if_pos (by omega), show xs.length - 1 - p = m from by omega]
    · rw [List.getElem?_set_ne (fun e => e2 e.symm), h.2 p hp]
      by_cases c : p < k ∨ xs.length < p + k + 1
      · rw [if_pos c, if_pos (by omega)]
      · rw [if_neg c, if_neg (by omega)]

set_option maxRecDepth 100000 in
set_option maxHeartbeats 2000000 in
theorem slices_Reverse (A : Option Addr) (c : Nat) (xs : List Int) (w : World) (S : Nat → Prop) (h : So eInt w S A c xs) (hS : ∀ b, S b → b < w.heap.size) :
    Calls Try.prog 156 #[.slice A xs.length c] w fun e w' => (∃ v, e = .returned v) ∧ So eInt w' S A c xs.reverse ∧ Chg S w w' := by
  have hlen := h.sl.len
  have H := Lib.hid h; clear h
  have HSS := Lib.hid hS; clear hS
  by_cases hx : xs.length = 0
  · have hx' : xs = [] := List.eq_nil_of_length_eq_zero hx
    subst hx'
    go_enter Try.func156, Try.ntmps156
    go_wp2
    go_loopw [2, 3] (fun s2 s3 wr => s2 = .int .i64 0 ∧ s3 = .int .i64 (-1) ∧ wr = w) (fun _ _ _ => 0)
    case atStart => exact ⟨rfl, rfl, rfl⟩
    case round =>
      obtain ⟨rfl, rfl, rfl⟩ := hrel
      go_wp2
      go_returns
      exact ⟨⟨_, rfl⟩, H.out, Chg.refl _ _⟩
  go_enter Try.func156, Try.ntmps156
  go_wp2
  go_loopw [2, 3] (fun s2 s3 wr => ∃ (k m : Nat) (ys : List Int), s2 = .int .i64 k ∧ s3 = .int .i64 m ∧ m + k + 1 = xs.length ∧ Hid (RevTo xs k ys) ∧ Hid (So eInt wr S A c ys) ∧ Hid (Chg S w wr)) (fun s2 _ _ => xs.length - (intOf s2).toNat)
  case atStart => exact ⟨0, xs.length - 1, xs, rfl, by go_num, by omega, revTo_zero xs, H, Chg.refl _ _⟩
  case round =>
    obtain ⟨k, m, ys, rfl, rfl, hkm, HR, HS, HG⟩ := hrel
    have hyl := HR.out.1
    by_cases hlt : k < m
    · have hltz : (k : Int) < (m : Int) := by omega
      have hk1 : k < ys.length := by omega
      have hm1 : m < ys.length := by omega
      obtain ⟨b, off, rfl, hb, ik, dk, fk⟩ := HS.out.getI hk1
      obtain ⟨b', off', hA, _, im, dm, fm⟩ := HS.out.getI hm1
      simp only [Option.some.injEq, Addr.mk.injEq, and_true] at hA
      obtain ⟨rfl, rfl⟩ := hA
      have hk2 : (k : Int) < (xs.length : Int) := by omega
      have hm2 : (m : Int) < (xs.length : Int) := by omega
      have HR2 := Lib.hid (revTo_step HR.out hkm hlt hk1 hm1)
      have HS2 := Lib.hid ((HS.out.setI hk1 im).setI (k := m) (by simpa using hm1) ik)
      have HG2 : Hid (Chg S w ((wr.setCell ⟨b, off + k, none⟩ (.int .i64 ys[m])).setCell ⟨b, off + m, none⟩ (.int .i64 ys[k]))) := (HG.out.set (by exact hb) _).set (by exact hb) _
      generalize ys[k] = yk at *
      generalize ys[m] = ym at *
      go_wp2_with fail
      go_region
      go_wp2
      go_roundw
      case rel => exact ⟨k + 1, m - 1, _, by go_num, by go_num, by omega, HR2.out, HS2.out.keep (fun _ _ => rfl), HG2.out.drew⟩
      case measure => simp [intOf]; omega
    · have hltz : ¬ (k : Int) < (m : Int) := by omega
      have HE : Hid (ys = xs.reverse) := revTo_end HR.out (by omega)
      go_wp2
      go_returns
      exact ⟨⟨_, rfl⟩, by rw [← HE.out]; exact HS.out, HG.out⟩

set_option maxHeartbeats 400000 in
theorem impl_reversed (A : Option Addr) (c : Nat) (xs : List Int) (w : World) (h : Sl eInt w (Old w) A c xs) (hsm : xs.length ≤ 1000000000000) :
    Calls Try.prog 105 #[.slice A xs.length c] w fun e w' => ∃ A' c', e = .returned (.slice A' xs.reverse.length c') ∧ So eInt w' (Fr w w') A' c' xs.reverse ∧ Below w.heap.size w w' := by
  have HC := Lib.hid (Clone_Int64 A c xs w h hsm); clear h
  go_enter Try.func105, Try.ntmps105
  go_wp2_with (first | (go_at_call 119; refine HC.out.mono ?_; rintro e w1 ⟨A1, c1, rfl, hso, hb⟩) | (go_at_call 156; refine (slices_Reverse _ _ xs _ _ hso (fun b hb => hb.2)).mono ?_; rintro e w2 ⟨⟨v, rfl⟩, hs2, hc2⟩))
  go_ret
  exact ⟨A1, c1, by rw [List.length_reverse]; rfl, hs2.more fun b hS => ⟨hS.1, Nat.lt_of_lt_of_le hS.2 hc2.size⟩, hb.trans (hc2.below hb.size fun b hS => hS.1)⟩

theorem drop_rev (xs : List Int) (k : Nat) (h : k < xs.length) : (xs.drop k).reverse = (xs.drop (k + 1)).reverse ++ [xs[k]] := by
  rw [List.drop_eq_getElem_cons h, List.reverse_cons]

set_option maxHeartbeats 1000000 in
theorem spec_l03Reverse (A : Option Addr) (c : Nat) (xs : List Int) (w : World) (h : Sl eInt w (Old w) A c xs) (hsm : xs.length ≤ 1000000000000) :
    Calls Try.prog 153 #[.slice A xs.length c] w fun e w' => ∃ v', e = .returned v' ∧ Row eInt encInt 2 w' w.heap.size v' xs.reverse ∧ Below w.heap.size w w' := by
  have hlen := h.len
  have H := Lib.hid h; clear h
  go_enter Try.func153, Try.ntmps153
  go_wp2
  go_loopw [3, 4] (fun s3 s4 wr => ∃ k : Nat, k ≤ xs.length ∧ s4 = .int .i64 ((k : Int) - 1) ∧ Hid (Row eInt encInt 2 wr w.heap.size s3 (xs.drop k).reverse) ∧ Hid (Below w.heap.size w wr)) (fun _ s4 _ => (intOf s4 + 1).toNat)
  case atStart => exact ⟨xs.length, Nat.le_refl _, rfl, by show Row _ _ _ _ _ _ _; rw [List.drop_length]; exact Row.empty (Nat.le_refl _), below_alloc (Below.refl _ _) _⟩
  case round =>
    obtain ⟨k, hk, rfl, HR, BW⟩ := hrel
    rcases k with _ | k
    · have h3 := HR.out
      rw [List.drop_zero] at h3
      have H3 := Lib.hid h3; clear h3
      go_wp2
      go_ret
      exact ⟨_, rfl, H3.out, BW.out⟩
    · have hlt : k < xs.length := by omega
      have hltz : (k : Int) < (xs.length : Int) := by omega
      obtain ⟨b, off, es, rfl, hb, ⟨rfl, hi⟩, hc⟩ := H.out.at1 rfl hlt
      have d0 : wr.cell? ⟨b, off + k, none⟩ = some (.int .i64 xs[k]) := (below_olds BW.out _ hb).trans (hc _ rfl)
      have HF := Lib.hid (drop_rev xs k hlt)
      clear hc
      have hl1 : (xs.drop (k + 1)).reverse.length + 1 ≤ 1000000000000 := by rw [List.length_reverse, List.length_drop]; omega
      generalize xs[k] = y at d0 HF hi
      have hks : ((k + 1 : Nat) : Int) - 1 = (k : Int) := by omega
      have hk0 : (0 : Int) ≤ (k : Int) := by omega
      rw [hks]
      have HG : Hid (Sl eInt (wr.alloc (.cells #[.int .i64 y] 2)) (Old (wr.alloc (.cells #[.int .i64 y] 2))) (some ⟨wr.heap.size, 0, none⟩) 1 [y]) := sl_one (Blk.new wr 2 #[.int .i64 y]) (by show _ < _; simp) hi
      have HR1 := Lib.hid (HR.out.on (below_alloc (Below.refl _ _) (.cells #[.int .i64 y] 2)))
      have hbase := BW.out.size
      go_wp2_with (at_builtin; refine wpList_append_row flat_int elem_Int64 rfl _ _ rfl (base := w.heap.size) rfl HR1.out rfl HG.out (by simp only [List.length_singleton]; unfold maxLen; omega) (by simp only [List.length_singleton]; omega) (by simp; omega) ?_)
      intro v' w2 hrow hgrow hat
      have HR2 : Hid (Row eInt encInt 2 w2 w.heap.size v' (xs.drop k).reverse) := by show Row _ _ _ _ _ _ _; rw [HF.out]; exact hrow
      have HL2 : Hid (Below w.heap.size w w2) := (below_alloc BW.out _).grown hgrow (by simp; omega) (fun b hb => (HR.out.lt b hb).1)
      clear hrow hgrow hat
      go_wp2
      go_roundw
      case rel => exact ⟨k, by omega, by go_num, HR2.out, HL2.out⟩
      case measure => simp [intOf]

set_option maxHeartbeats 400000 in
theorem spec_l06Trim (A : Option Addr) (c : Nat) (xs : List Int) (w : World) (h : Sl eInt w (Old w) A c xs) (hsm : xs.length ≤ 1000000000000) :
    Calls Try.prog 154 #[.slice A xs.length c] w fun e w' => ∃ A' c', e = .returned (.slice A' (trimZ xs).length c') ∧ So eInt w' (Fr w w') A' c' (trimZ xs) ∧ Below w.heap.size w w' := by
  have HC := Lib.hid (spec_l02Trim A c xs w h)
  have H := Lib.hid h; clear h
  go_enter Try.func154, Try.ntmps154
  go_wp2_with fail
  refine HC.out.mono ?_
  rintro e w1 ⟨rfl, ⟨k, hk⟩, rfl⟩
  have hle : (trimZ xs).length ≤ 1000000000000 := by rw [hk, List.length_take]; omega
  have HO := Lib.hid (spec_l00Own A c (trimZ xs) w (by rw [hk]; exact H.out.take k) hle)
  clear hk
  go_wp2_with (go_at_call 118; refine HO.out.mono ?_; rintro e w2 ⟨A', c', rfl, hso, hb⟩)
  go_ret
  exact ⟨A', c', rfl, hso, hb⟩

theorem trimZ_cons (a : Int) (ys : List Int) : trimZ (a :: ys) = if a = 0 ∧ trimZ ys = [] then [] else a :: trimZ ys := by
  unfold trimZ
  rw [List.reverse_cons, List.dropWhile_append]
  by_cases h : (ys.reverse.dropWhile (· == 0)).isEmpty
  · rw [if_pos h]
    rw [List.isEmpty_iff] at h
    by_cases ha : a = 0
    · rw [if_pos ⟨ha, by rw [h]; rfl⟩, ha]; rfl
    · rw [if_neg (fun hc => ha hc.1), List.dropWhile_cons_of_neg (by simpa using ha), h]; rfl
  · rw [if_neg h, if_neg (fun hc => h (by simpa using hc.2)), List.reverse_append]; rfl

theorem lead_trim (xs : List Int) : leadZ (trimZ xs) = trimZ (leadZ xs) := by
  induction xs with
  | nil => rfl
  | cons a ys ih =>
    by_cases ha : a = 0
    · subst ha
      have e1 : leadZ ((0 : Int) :: ys) = leadZ ys := by unfold leadZ; rw [List.dropWhile_cons_of_pos (by simp)]
      rw [e1, ← ih, trimZ_cons]
      split
      · rename_i h; rw [h.2]
      · unfold leadZ; rw [List.dropWhile_cons_of_pos (by simp)]
    · have e1 : leadZ (a :: ys) = a :: ys := by unfold leadZ; rw [List.dropWhile_cons_of_neg (by simpa using ha)]
      rw [e1, trimZ_cons, if_neg (fun h => ha h.1)]
      unfold leadZ; rw [List.dropWhile_cons_of_neg (by simpa using ha)]

theorem leadZ_cons_zero (ys : List Int) : leadZ (0 :: ys) = leadZ ys := by unfold leadZ; rw [List.dropWhile_cons_of_pos (by simp)]

theorem leadZ_cons_stop (y : Int) (ys : List Int) (h : y ≠ 0) : leadZ (y :: ys) = y :: ys := by unfold leadZ; rw [List.dropWhile_cons_of_neg (by simpa using h)]

theorem trimZ_len (xs : List Int) : (trimZ xs).length ≤ xs.length := by
  induction xs with
  | nil => simp [trimZ]
  | cons a ys ih => rw [trimZ_cons]; split <;> simp; omega

theorem leadZ_len (xs : List Int) : (leadZ xs).length ≤ xs.length := (List.dropWhile_suffix _).length_le

def outB (lo hi n : Int) : Bool := !withinB n lo hi

def allW (xs : List Int) (lo hi : Int) : Bool := !xs.any (outB lo hi)

theorem impl_allWithin (A : Option Addr) (c : Nat) (xs : List Int) (lo hi : Int) (w : World) (h : Sl eInt w (Old w) A c xs) :
    Calls Try.prog 117 #[.slice A xs.length c, .int .i64 lo, .int .i64 hi] w fun e w' => e = .returned (.bool (allW xs lo hi)) ∧ w = w' := by
  have hlen := h.len
  have H := Lib.hid h; clear h
  unfold allW
  go_enter Try.func117, Try.ntmps117
  go_wp2
  go_loop [8, 11] (fun _ i => ∃ k : Nat, k ≤ xs.length ∧ i = .int .i64 k ∧ Hid ((xs.take k).any (outB lo hi) = false)) (fun _ i => xs.length - (intOf i).toNat)
  case atStart => exact ⟨0, Nat.zero_le _, rfl, rfl⟩
  case round =>
    obtain ⟨k, hk, rfl, HN⟩ := hrel
    by_cases hlt : k < xs.length
    · have hltz : (k : Int) < (xs.length : Int) := by omega
      obtain ⟨b, off, es, rfl, hb, ⟨rfl, _⟩, hc⟩ := H.out.at1 rfl hlt
      have d0 : w.cell? ⟨b, off + k, none⟩ = some (.int .i64 xs[k]) := hc _ rfl
      clear hc
      have HT : Hid (outB lo hi xs[k] = true → xs.any (outB lo hi) = true) := fun e => any_hit hlt e
      have HS : Hid (outB lo hi xs[k] = false → (xs.take (k + 1)).any (outB lo hi) = false) := fun e => any_step hlt HN.out e
      generalize xs[k] = y at d0 HT HS
      cases q1 : withinB y lo hi
      · go_wp2_with (go_at_call 81; refine (impl_within _ _ _ _).mono ?_; rintro e w' ⟨rfl, rfl⟩; rw [q1])
        go_ret
        exact ⟨by rw [HT.out (by unfold outB; rw [q1]; rfl)]; rfl, rfl⟩
      · go_wp2_with (go_at_call 81; refine (impl_within _ _ _ _).mono ?_; rintro e w' ⟨rfl, rfl⟩; rw [q1])
        go_round
        case rel => exact ⟨k + 1, by omega, by go_num, HS.out (by unfold outB; rw [q1]; rfl)⟩
        case measure => simp [intOf]; omega
    · have hltz : ¬ (k : Int) < (xs.length : Int) := by omega
      obtain rfl : k = xs.length := by omega
      go_wp2
      go_ret
      have hn := HN.out
      rw [List.take_length] at hn
      exact ⟨ret_bool (by rw [hn]; rfl), rfl⟩

theorem impl_isLetters (A : Option Addr) (c : Nat) (xs : List Int) (w : World) (h : Sl eInt w (Old w) A c xs) :
    Calls Try.prog 147 #[.slice A xs.length c] w fun e w' => e = .returned (.bool (allW xs 0 9)) ∧ w = w' := by
  have H := Lib.hid h; clear h
  go_enter Try.func147, Try.ntmps147
  go_wp2_with (go_at_call 117; refine (impl_allWithin _ _ _ _ _ _ H.out).mono ?_; rintro e w' ⟨rfl, rfl⟩)
  go_ret
  exact ⟨rfl, rfl⟩

theorem sl_two {α : Type} {E : Enc α} {w : World} {S : Nat → Prop} {g : Nat} {t : TypeId} {A0 A1 : Option Addr} {c0 c1 : Nat} {x0 x1 : List α} (hB : Blk w g t #[.slice A0 x0.length c0, .slice A1 x1.length c1]) (hg : S g) (h0 : Sl E w S A0 c0 x0) (h1 : Sl E w S A1 c1 x1) :
    Sl (eSl E) w S (some ⟨g, 0, none⟩) 2 [x0, x1] :=
  ⟨Nat.le_refl _, by unfold maxLen; omega, fun _ => ⟨g, 0, rfl, hg, fun i x hx => by
    rcases i with _ | _ | i
    · simp at hx; subst hx
      refine ⟨_, ⟨A0, c0, rfl, h0⟩, fun j v hv => ?_⟩
      rcases j with _ | j
      · simp at hv; subst hv; exact hB.cell 0
      · simp at hv
    · simp at hx; subst hx
      refine ⟨_, ⟨A1, c1, rfl, h1⟩, fun j v hv => ?_⟩
      rcases j with _ | j
      · simp at hv; subst hv; exact hB.cell 1
      · simp at hv
    · simp at hx⟩⟩

theorem spec_l06Row (A : Option Addr) (c : Nat) (xs : List Int) (lo hi : Int) (w : World) (h : Sl eInt w (Old w) A c xs) :
    Calls Try.prog 146 #[.slice A xs.length c, .int .i64 xs.length, .int .i64 lo, .int .i64 hi] w fun e w' => e = .returned (.bool (allW xs lo hi)) ∧ w = w' := by
  have hlen := h.len
  have H := Lib.hid h; clear h
  have HV : Hid (allW xs lo hi = !xs.any (outB lo hi)) := rfl
  have hsame : ((xs.length : Int) != (xs.length : Int)) = false := by simp
  go_enter Try.func146, Try.ntmps146
  go_wp2
  go_loop [9] (fun i => ∃ k : Nat, k ≤ xs.length ∧ i = .int .i64 k ∧ Hid ((xs.take k).any (outB lo hi) = false)) (fun i => xs.length - (intOf i).toNat)
  case atStart => exact ⟨0, Nat.zero_le _, rfl, rfl⟩
  case round =>
    obtain ⟨k, hk, rfl, HN⟩ := hrel
    by_cases hlt : k < xs.length
    · have hltz : (k : Int) < (xs.length : Int) := by omega
      obtain ⟨b, off, es, rfl, hb, ⟨rfl, _⟩, hc⟩ := H.out.at1 rfl hlt
      have d0 : w.cell? ⟨b, off + k, none⟩ = some (.int .i64 xs[k]) := hc _ rfl
      clear hc
      have HT : Hid (outB lo hi xs[k] = true → xs.any (outB lo hi) = true) := fun e => any_hit hlt e
      have HS : Hid (outB lo hi xs[k] = false → (xs.take (k + 1)).any (outB lo hi) = false) := fun e => any_step hlt HN.out e
      generalize xs[k] = y at d0 HT HS
      cases q1 : withinB y lo hi
      · go_wp2_with (go_at_call 79; refine (spec_l00In _ _ _ _).mono ?_; rintro e w' ⟨rfl, rfl⟩; rw [q1])
        go_ret
        exact ⟨ret_bool (by rw [HV.out, HT.out (by unfold outB; rw [q1]; rfl)]; rfl), rfl⟩
      · go_wp2_with (go_at_call 79; refine (spec_l00In _ _ _ _).mono ?_; rintro e w' ⟨rfl, rfl⟩; rw [q1])
        go_round
        case rel => exact ⟨k + 1, by omega, by go_num, HS.out (by unfold outB; rw [q1]; rfl)⟩
        case measure => simp [intOf]; omega
    · have hltz : ¬ (k : Int) < (xs.length : Int) := by omega
      obtain rfl : k = xs.length := by omega
      go_wp2
      go_ret
      have hn := HN.out
      rw [List.take_length] at hn
      exact ⟨ret_bool (by rw [HV.out, hn]; rfl), rfl⟩

def readableT (t : tTape) : Bool := decide (t.1.length ≤ 200) && decide (t.2.length ≤ 200) && allW t.1 0 9 && allW t.2 0 9

set_option maxHeartbeats 1000000 in
theorem impl_readable (es : List Value) (x : tTape) (w : World) (h : eTape.R w (Old w) es x) :
    Calls Try.prog 93 #[.agg es.toArray] w fun e w' => e = .returned (.bool (readableT x)) ∧ Below w.heap.size w w' := by
  obtain ⟨A0, c0, A1, c1, rfl, g0, g1⟩ := shape_Tape h
  clear h
  have HB : Hid (Below w.heap.size w (w.alloc (.cells #[.slice A0 x.1.length c0, .slice A1 x.2.length c1] 69))) := by show Below _ _ _; go_grown
  have HE : Hid (readableT x = (decide (x.1.length ≤ 200) && decide (x.2.length ≤ 200) && allW x.1 0 9 && allW x.2 0 9)) := rfl
  have HC0 := Lib.hid (impl_isLetters _ _ x.1 _ (g0.on HB.out))
  have HC1 := Lib.hid (impl_isLetters _ _ x.2 _ (g1.on HB.out))
  clear g0 g1
  by_cases q0 : x.1.length ≤ 200
  rotate_left
  · have q0' : decide ((x.1.length : Int) ≤ 200) = false := by simp; omega
    go_enter Try.func93, Try.ntmps93
    go_wp2_with fail
    go_ret
    exact ⟨ret_bool (by rw [HE.out, decide_eq_false q0]; rfl), HB.out⟩
  have q0' : decide ((x.1.length : Int) ≤ 200) = true := by simp; omega
  by_cases q1 : x.2.length ≤ 200
  rotate_left
  · have q1' : decide ((x.2.length : Int) ≤ 200) = false := by simp; omega
    go_enter Try.func93, Try.ntmps93
    go_wp2_with fail
    go_ret
    exact ⟨ret_bool (by rw [HE.out, decide_eq_true q0, decide_eq_false q1]; rfl), HB.out⟩
  have q1' : decide ((x.2.length : Int) ≤ 200) = true := by simp; omega
  cases q2 : allW x.1 0 9
  · rw [q2] at HC0
    go_enter Try.func93, Try.ntmps93
    go_wp2_with (go_at_call_of 147 (Value.slice A0 x.1.length c0); refine HC0.out.mono ?_; rintro e w1 ⟨rfl, rfl⟩)
    go_ret
    exact ⟨ret_bool (by rw [HE.out, q2]; simp), HB.out⟩
  · rw [q2] at HC0
    go_enter Try.func93, Try.ntmps93
    go_wp2_with (first | (go_at_call_of 147 (Value.slice A0 x.1.length c0); refine HC0.out.mono ?_; rintro e w1 ⟨rfl, rfl⟩) | (go_at_call_of 147 (Value.slice A1 x.2.length c1); refine HC1.out.mono ?_; rintro e w1 ⟨rfl, rfl⟩))
    go_ret
    exact ⟨ret_bool (by rw [HE.out, q2, decide_eq_true q0, decide_eq_true q1]; simp), HB.out⟩

set_option maxRecDepth 100000 in
set_option maxHeartbeats 2000000 in
theorem spec_l06Cells (p o : Nat) (x : tTape) (A0 A1 : Option Addr) (c0 c1 : Nat) (w : World) (x0 : w.cell? ⟨p, o, none⟩ = some (.slice A0 x.1.length c0)) (x1 : w.cell? ⟨p, o + 1, none⟩ = some (.slice A1 x.2.length c1))
    (h0 : Sl eInt w (Old w) A0 c0 x.1) (h1 : Sl eInt w (Old w) A1 c1 x.2) :
    Calls Try.prog 92 #[.pointer (some ⟨p, o, none⟩)] w fun e w' => e = .returned (.bool (readableT x)) ∧ Dr w w' := by
  have HE : Hid (readableT x = (decide (x.1.length ≤ 200) && decide (x.2.length ≤ 200) && allW x.1 0 9 && allW x.2 0 9)) := rfl
  have HC0 := Lib.hid (fun n => spec_l06Row _ _ x.1 0 9 (w.drewN n) (h0.on (Dr.below ⟨n, rfl⟩)))
  have HC1 := Lib.hid (fun n => spec_l06Row _ _ x.2 0 9 (w.drewN n) (h1.on (Dr.below ⟨n, rfl⟩)))
  have hl0 := h0.len
  have hl1 := h1.len
  clear h0 h1
  by_cases q0 : x.1.length ≤ 200
  rotate_left
  · have q0' : decide ((x.1.length : Int) ≤ 200) = false := by simp; omega
    go_enter Try.func92, Try.ntmps92
    go_wp2_with fail
    go_quiet (fail)
    go_wp2
    go_ret
    exact ⟨ret_bool (by rw [HE.out, decide_eq_false q0]; rfl), Dr.drewN (Dr.refl _) _⟩
  have q0' : decide ((x.1.length : Int) ≤ 200) = true := by simp; omega
  by_cases q1 : x.2.length ≤ 200
  rotate_left
  · have q1' : decide ((x.2.length : Int) ≤ 200) = false := by simp; omega
    go_enter Try.func92, Try.ntmps92
    go_wp2_with fail
    go_quiet (fail)
    go_wp2
    go_ret
    exact ⟨ret_bool (by rw [HE.out, decide_eq_true q0, decide_eq_false q1]; rfl), Dr.drewN (Dr.refl _) _⟩
  have q1' : decide ((x.2.length : Int) ≤ 200) = true := by simp; omega
  cases q2 : allW x.1 0 9
  · rw [q2] at HC0
    go_enter Try.func92, Try.ntmps92
    go_wp2_with fail
    go_quiet (first | (go_at_call_of 146 (Value.slice A0 x.1.length c0); exact Dr.quiet0 (HC0.out _)))
    go_wp2
    go_ret
    exact ⟨ret_bool (by rw [HE.out, q2]; simp), Dr.drewN (Dr.refl _) _⟩
  · rw [q2] at HC0
    go_enter Try.func92, Try.ntmps92
    go_wp2_with fail
    go_quiet (first | (go_at_call_of 146 (Value.slice A0 x.1.length c0); exact Dr.quiet0 (HC0.out _)) | (go_at_call_of 146 (Value.slice A1 x.2.length c1); exact Dr.quiet0 (HC1.out _)))
    go_wp2
    go_ret
    exact ⟨ret_bool (by rw [HE.out, q2, decide_eq_true q0, decide_eq_true q1]; simp), Dr.drewN (Dr.refl _) _⟩

theorem readableT_len {t : tTape} (h : readableT t = true) : t.1.length ≤ 200 ∧ t.2.length ≤ 200 := by
  unfold readableT at h; simp at h; exact ⟨h.1.1.1, h.1.1.2⟩

def tapeRow (x : tTape) : List Int := x.1.reverse ++ x.2

def tapeWord (x : tTape) : List Int × Int := if readableT x then (trimZ (leadZ (tapeRow x)), 0) else ([], 1)

/-- The loop that strikes zeros in front of a slice. -/
theorem So.cons_cut {w : World} {S : Nat → Prop} {b off c : Nat} {y : Int} {ys : List Int} (h : So eInt w S (some ⟨b, off, none⟩) c (y :: ys)) : So eInt w S (some ⟨b, off + 1, none⟩) (c - 1) ys := by
  have := h.drop1 1
  rw [show off + 1 * eInt.size = off + 1 from rfl] at this
  exact this

theorem Sl.cons_cut {w : World} {S : Nat → Prop} {b off c : Nat} {y : Int} {ys : List Int} (h : Sl eInt w S (some ⟨b, off, none⟩) c (y :: ys)) : Sl eInt w S (some ⟨b, off + 1, none⟩) (c - 1) ys := by
  have := h.drop1 1
  rw [show off + 1 * eInt.size = off + 1 from rfl] at this
  exact this

theorem So.cons_cut2 {w : World} {S : Nat → Prop} {b off c : Nat} {y : Int} {ys : List Int} (h : So eInt w S (some ⟨b, off, none⟩) c (y :: ys)) : So eInt w S (if c = 1 then some ⟨b, off, none⟩ else some ⟨b, off + 1, none⟩) (c - 1) ys := by
  split
  · next hc =>
    have h1 : ys = [] := List.eq_nil_of_length_eq_zero (by have := h.1; rw [List.length_cons] at this; omega)
    subst h1
    exact So.nil (by have := h.2.1; omega)
  · exact h.cons_cut

theorem Sl.cons_cut2 {w : World} {S : Nat → Prop} {b off c : Nat} {y : Int} {ys : List Int} (h : Sl eInt w S (some ⟨b, off, none⟩) c (y :: ys)) : Sl eInt w S (if c = 1 then some ⟨b, off, none⟩ else some ⟨b, off + 1, none⟩) (c - 1) ys := by
  split
  · next hc =>
    have h1 : ys = [] := List.eq_nil_of_length_eq_zero (by have := h.1; rw [List.length_cons] at this; omega)
    subst h1
    exact Sl.nil (by have := h.2.1; omega)
  · exact h.cons_cut

theorem sl_two2 {w : World} {S : Nat → Prop} {g : Nat} {t : TypeId} {A0 A1 : Option Addr} {c0 c1 n0 n1 : Nat} {x0 x1 : List Int} (hB : Blk w g t #[.slice A0 n0 c0, .slice A1 n1 c1]) (e0 : n0 = x0.length) (e1 : n1 = x1.length) (hg : S g) (h0 : Sl eInt w S A0 c0 x0) (h1 : Sl eInt w S A1 c1 x1) :
    Sl (eSl eInt) w S (some ⟨g, 0, none⟩) 2 [x0, x1] := by subst e0 e1; exact sl_two hB hg h0 h1

theorem impl_joined2 (b t : Nat) (A0 A1 : Option Addr) (c0 c1 n0 n1 : Nat) (xs ys : List Int) (w : World) (hB : Blk w b t #[.slice A0 n0 c0, .slice A1 n1 c1]) (e0 : n0 = xs.length) (e1 : n1 = ys.length) (h0 : Sl eInt w (Old w) A0 c0 xs) (h1 : Sl eInt w (Old w) A1 c1 ys) (hsm : xs.length + ys.length ≤ 1000000000000) :
    Calls Try.prog 104 #[.slice (some ⟨b, 0, none⟩) 2 2] w fun e w' => ∃ A' c' n, e = .returned (.slice A' n c') ∧ n = (xs ++ ys).length ∧ So eInt w' (Fr w w') A' c' (xs ++ ys) ∧ Below w.heap.size w w' := by
  have h := impl_joined _ 2 [xs, ys] w (sl_two2 hB e0 e1 hB.lt h0 h1) (by simpa using hsm)
  refine h.mono ?_
  rintro e w' ⟨A', c', rfl, hs, hb⟩
  rw [show [xs, ys].flatten = xs ++ ys from by simp] at hs ⊢
  exact ⟨A', c', _, rfl, rfl, hs, hb⟩

theorem impl_trimmedN (A : Option Addr) (c n : Nat) (xs : List Int) (w : World) (h : Sl eInt w (Old w) A c xs) (hn : n = xs.length) :
    Calls Try.prog 103 #[.slice A n c] w fun e w' => ∃ m k, e = .returned (.slice A m c) ∧ m = (trimZ xs).length ∧ trimZ xs = xs.take k ∧ w = w' := by
  subst hn
  refine (impl_trimmed A c xs w h).mono ?_
  rintro e w' ⟨rfl, ⟨k, hk⟩, rfl⟩
  exact ⟨_, k, rfl, rfl, hk, rfl⟩

theorem impl_reversedN (A : Option Addr) (c n : Nat) (xs : List Int) (w : World) (h : Sl eInt w (Old w) A c xs) (hn : n = xs.length) (hsm : xs.length ≤ 1000000000000) :
    Calls Try.prog 105 #[.slice A n c] w fun e w' => ∃ A' c' m, e = .returned (.slice A' m c') ∧ m = xs.reverse.length ∧ So eInt w' (Fr w w') A' c' xs.reverse ∧ Below w.heap.size w w' := by
  subst hn
  refine (impl_reversed A c xs w h hsm).mono ?_
  rintro e w' ⟨A', c', rfl, hs, hb⟩
  exact ⟨A', c', _, rfl, rfl, hs, hb⟩

set_option maxRecDepth 100000 in
set_option maxHeartbeats 2000000 in
theorem impl_TapeWord (es : List Value) (x : tTape) (w : World) (h : eTape.R w (Old w) es x) :
    Calls Try.prog 43 #[.agg es.toArray] w fun e w' => ∃ A' c', e = .returned (.tuple #[.slice A' (tapeWord x).1.length c', .int .i64 (tapeWord x).2]) ∧ So eInt w' (Fr w w') A' c' (tapeWord x).1 ∧ Below w.heap.size w w' := by
  have HR := Lib.hid h
  obtain ⟨A0, c0, A1, c1, rfl, g0, g1⟩ := shape_Tape h
  clear h
  have HB : Hid (Below w.heap.size w (w.alloc (.cells #[.slice A0 x.1.length c0, .slice A1 x.2.length c1] 69))) := by show Below _ _ _; go_grown
  have HG0 := Lib.hid (g0.on HB.out)
  have HG1 := Lib.hid (g1.on HB.out)
  have HC := Lib.hid (impl_readable _ x _ (eTape.on HR.out HB.out))
  clear g0 g1
  cases q : readableT x
  · rw [show tapeWord x = ([], 1) from by unfold tapeWord; rw [q]; rfl]
    rw [q] at HC
    go_enter Try.func43, Try.ntmps43
    go_wp2_with (go_at_call 93; refine HC.out.mono ?_; rintro e w1 ⟨rfl, hb⟩)
    go_ret2
    exact ⟨none, 0, rfl, So.nil (Nat.zero_le _), below_trans HB.out hb⟩
  rw [show tapeWord x = (leadZ (trimZ (tapeRow x)), 0) from by unfold tapeWord; rw [q, lead_trim]; rfl]
  rw [q] at HC
  obtain ⟨hl1, hl2⟩ := readableT_len q
  go_enter Try.func43, Try.ntmps43
  go_wp2_with fail
  refine HC.out.mono ?_
  rintro e w1 ⟨rfl, hb⟩
  have hX := (Blk.new w 69 #[.slice A0 x.1.length c0, .slice A1 x.2.length c1]).on hb
  have e0 : w1.cell? ⟨w.heap.size, 0, none⟩ = some (.slice A0 x.1.length c0) := hX.cell 0
  have e1 : w1.cell? ⟨w.heap.size, 1, none⟩ = some (.slice A1 x.2.length c1) := hX.cell 1
  have HB1 := Lib.hid (below_trans HB.out hb)
  have HK0 := Lib.hid (HG0.out.on hb)
  have HK1 := Lib.hid (HG1.out.on hb)
  have HX := Lib.hid hX
  clear hb hX HC q
  go_wp2_with fail
  go_region_held3 (fun w' => w'.cell? ⟨w.heap.size, 0, none⟩ = some (.slice A0 x.1.length c0) ∧ w'.cell? ⟨w.heap.size, 1, none⟩ = some (.slice A1 x.2.length c1)) (first | (simp [go_sem, *]; done) | (refine ⟨?_, ?_⟩ <;> assumption) | exact ⟨(HX2.out.alloc _).cell 0, (HX2.out.alloc _).cell 1⟩)
    (first
      | (go_at_call 105; refine (impl_reversedN _ _ _ x.1 _ (by exact HK0.out.on (Below.refl _ _).drew) rfl (by omega)).mono ?_; rintro e w2 ⟨A2, c2, n2, rfl, hn, hso, hb⟩; (have HN2 := Lib.hid hn); (have e0' : w2.cell? ⟨w.heap.size, 0, none⟩ = some (.slice A0 x.1.length c0) := (HX.out.drew.on hb).cell 0); (have e1' : w2.cell? ⟨w.heap.size, 1, none⟩ = some (.slice A1 x.2.length c1) := (HX.out.drew.on hb).cell 1); (have HX2 := Lib.hid (HX.out.drew.on hb)); (have HS2 := Lib.hid hso); (have HB2 := Lib.hid ((Below.refl w1.heap.size w1).drew.trans hb)); (clear hso hb hn))
      | (go_at_call 104; refine (impl_joined2 _ _ _ _ _ _ _ _ x.1.reverse x.2 _ (Blk.new w2 23 #[.slice A2 n2 c2, .slice A1 x.2.length c1]) HN2.out rfl (HS2.out.old.on (below_alloc (Below.refl _ _) _)) (HK1.out.on (below_alloc HB2.out _)) (by rw [List.length_reverse]; omega)).mono ?_; rintro e w3 ⟨A3, c3, n3, rfl, hn, hso, hb⟩; (have HN3 : Hid (n3 = (tapeRow x).length) := hn); (have HS3 : Hid (So eInt w3 (Fr w w3) A3 c3 (tapeRow x)) := hso.low (by have h1 := HB1.out.size; have h2 := HB2.out.size; simp only [World.size_alloc]; omega)); (have HB3 := Lib.hid (below_trans (below_alloc HB2.out _) hb)); (have e0'' : w3.cell? ⟨w.heap.size, 0, none⟩ = some (.slice A0 x.1.length c0) := (HX.out.on HB3.out).cell 0); (have e1'' : w3.cell? ⟨w.heap.size, 1, none⟩ = some (.slice A1 x.2.length c1) := (HX.out.on HB3.out).cell 1); (clear hso hb hn))
      | (go_at_call 103; refine (impl_trimmedN _ _ _ (tapeRow x) _ HS3.out.old HN3.out).mono ?_; rintro e w4 ⟨m4, k4, rfl, hm4, hk4, rfl⟩; (have HM4 := Lib.hid hm4); (have HK4 := Lib.hid hk4); (clear hm4 hk4)))
  have HS4 : Hid (So eInt w3 (Fr w w3) A3 c3 (trimZ (tapeRow x))) := by show So _ _ _ _ _ _; rw [HK4.out]; exact HS3.out.take k4
  have HB4 := Lib.hid (below_trans HB1.out HB3.out)
  have hl4 : (trimZ (tapeRow x)).length ≤ 400 := by
    have h1 := trimZ_len (tapeRow x)
    have h2 : (tapeRow x).length = x.1.length + x.2.length := by unfold tapeRow; simp
    omega
  clear HS3 HN3 HK4 HB3 HX HX2 HS2 HB2 e0' e1' e0'' e1'' HB1 HK0 HK1 HN2 e0 e1
  go_wp2
  go_loop [4] (fun s4 => ∃ (A : Option Addr) (c : Nat) (ys : List Int), s4 = .slice A ys.length c ∧ ys.length ≤ 400 ∧ Hid (So eInt w3 (Fr w w3) A c ys) ∧ Hid (leadZ ys = leadZ (trimZ (tapeRow x)))) (fun s4 => match s4 with | .slice _ n _ => n | _ => 0)
  case atStart => exact ⟨A3, c3, trimZ (tapeRow x), by rw [← HM4.out], hl4, HS4, rfl⟩
  case round =>
    obtain ⟨A, c, ys, rfl, hyl, HS, HE⟩ := hrel
    rcases ys with _ | ⟨y, ys⟩
    · have HF : Hid (leadZ (trimZ (tapeRow x)) = []) := HE.out.symm
      go_wp2
      go_ret2
      exact ⟨A, c, by rw [HF.out]; rfl, by rw [HF.out]; exact HS.out, HB4.out⟩
    · obtain ⟨b, off, rfl, hb, iy, d0, _⟩ := HS.out.getI (k := 0) (Nat.zero_lt_succ _)
      rw [Nat.add_zero, List.getElem_cons_zero] at d0
      have hcap : ys.length + 1 ≤ c := HS.out.1
      have hc1 : c ≤ maxLen := HS.out.2.1
      have hcapz : (ys.length : Int) + 1 ≤ (c : Int) := by omega
      rw [List.length_cons] at hyl
      cases q : (y == 0)
      · have HF : Hid (leadZ (trimZ (tapeRow x)) = y :: ys) := by show _ = _; rw [← HE.out, leadZ_cons_stop y ys (by simpa using q)]
        go_wp2
        go_ret2
        exact ⟨_, c, by rw [HF.out]; rfl, by rw [HF.out]; exact HS.out, HB4.out⟩
      · have hy : y = 0 := by simpa using q
        go_wp2
        go_round
        case rel => exact ⟨_, c - 1, ys, rfl, by omega, HS.out.cons_cut2, by show _ = _; rw [← HE.out, hy, leadZ_cons_zero]⟩
        case measure => simp

set_option maxRecDepth 100000 in
set_option maxHeartbeats 2000000 in
theorem spec_l06Word (p : Nat) (x : tTape) (A0 A1 : Option Addr) (c0 c1 : Nat) (w : World) (x0 : w.cell? ⟨p, 0, none⟩ = some (.slice A0 x.1.length c0)) (x1 : w.cell? ⟨p, 1, none⟩ = some (.slice A1 x.2.length c1))
    (h0 : Sl eInt w (Old w) A0 c0 x.1) (h1 : Sl eInt w (Old w) A1 c1 x.2) (hl1 : x.1.length ≤ 200) (hl2 : x.2.length ≤ 200) :
    Calls Try.prog 102 #[.pointer (some ⟨p, 0, none⟩)] w fun e w' => ∃ A' c', e = .returned (.slice A' (trimZ (leadZ (tapeRow x))).length c') ∧ So eInt w' (Fr w w') A' c' (trimZ (leadZ (tapeRow x))) ∧ Below w.heap.size w w' := by
  have hp : p < w.heap.size := World.block_lt_of_cell? w _ x0
  have K0 := Lib.hid h0
  have K1 := Lib.hid h1
  clear h0 h1
  have hle : (x.1.reverse).length + x.2.length ≤ 400 := by rw [List.length_reverse]; omega
  go_enter Try.func102, Try.ntmps102
  go_wp2_with fail
  go_region_held3 (fun w' => w'.cell? ⟨p, 0, none⟩ = some (.slice A0 x.1.length c0) ∧ w'.cell? ⟨p, 1, none⟩ = some (.slice A1 x.2.length c1)) (first | (simp [go_sem, *]; done) | (refine ⟨?_, ?_⟩ <;> assumption))
    (first
      | (go_at_call 153; refine (spec_l03Reverse _ _ x.1 _ (by exact K0.out.on (Below.refl _ _).drew) (by omega)).mono ?_; rintro e w2 ⟨v2, rfl, hrow, hb⟩; (have HR2 := Lib.hid hrow); (have HB2 := Lib.hid ((Below.refl w.heap.size w).drew.trans hb)); (have e0' : w2.cell? ⟨p, 0, none⟩ = some (.slice A0 x.1.length c0) := (HB2.out.cell hp).trans x0); (have e1' : w2.cell? ⟨p, 1, none⟩ = some (.slice A1 x.2.length c1) := (HB2.out.cell hp).trans x1); (have hbase : w.heap.size ≤ w2.heap.size := HB2.out.size); (clear hrow hb))
      | (refine step_append_row flat_int elem_Int64 (by rfl) _ _ (by rfl) (base := w.heap.size) (v := v2) (xs := x.1.reverse) (ys := x.2) (by rfl) HR2.out (by rfl) (K1.out.on HB2.out) (by unfold maxLen; omega) (by omega) hbase ?_; intro v3 w3 hrow hgrow hat; (have HR3 : Hid (Row eInt encInt 2 w3 w.heap.size v3 (tapeRow x)) := hrow); (have HB3 : Hid (Below w.heap.size w w3) := HB2.out.grown hgrow hbase (fun b hb => (HR2.out.lt b hb).1)); (have e0'' : w3.cell? ⟨p, 0, none⟩ = some (.slice A0 x.1.length c0) := (HB3.out.cell hp).trans x0); (have e1'' : w3.cell? ⟨p, 1, none⟩ = some (.slice A1 x.2.length c1) := (HB3.out.cell hp).trans x1); (clear hrow hgrow hat)))
  obtain ⟨A3, c3, hv3, hso⟩ := HR3.out.so
  have HS3 := Lib.hid hso.old
  have hl4 : (tapeRow x).length ≤ 400 := by unfold tapeRow; rw [List.length_append]; exact hle
  clear hso HR3 HR2 HB2 e0' e1' e0'' e1'' K0 K1
  subst hv3
  go_wp2
  go_loop [3] (fun s4 => ∃ (A : Option Addr) (c : Nat) (ys : List Int), s4 = .slice A ys.length c ∧ ys.length ≤ 400 ∧ Hid (Sl eInt w3 (Old w3) A c ys) ∧ Hid (leadZ ys = leadZ (tapeRow x))) (fun s4 => match s4 with | .slice _ n _ => n | _ => 0)
  case atStart => exact ⟨A3, c3, tapeRow x, rfl, hl4, HS3, rfl⟩
  case round =>
    clear HS3
    obtain ⟨A, c, ys, rfl, hyl, HS, HE⟩ := hrel
    have hfin : ys = leadZ (tapeRow x) → Calls Try.prog 154 #[.slice A ys.length c] w3 fun e w' => ∃ A' c', e = .returned (.slice A' (trimZ (leadZ (tapeRow x))).length c') ∧ So eInt w' (Fr w w') A' c' (trimZ (leadZ (tapeRow x))) ∧ Below w.heap.size w w' := fun he => by
      refine (spec_l06Trim A c ys w3 HS.out (by omega)).mono ?_
      rintro e w4 ⟨A', c', rfl, hs, hb⟩
      rw [← he]
      exact ⟨A', c', rfl, hs.low HB3.out.size, HB3.out.trans (hb.mono HB3.out.size)⟩
    have HFin := Lib.hid hfin; clear hfin
    rcases ys with _ | ⟨y, ys⟩
    · have HF := Lib.hid (HFin.out HE.out)
      go_wp2_with (go_at_call 154; refine HF.out.mono ?_; rintro e w4 ⟨A', c', rfl, hs, hb⟩)
      go_ret
      exact ⟨A', c', rfl, hs, hb⟩
    · obtain ⟨b, off, es, rfl, hb, ⟨rfl, _⟩, hc⟩ := HS.out.at1 rfl (k := 0) (Nat.zero_lt_succ _)
      have d0 : w3.cell? ⟨b, off, none⟩ = some (.int .i64 y) := hc _ rfl
      clear hc
      have hcap : ys.length + 1 ≤ c := HS.out.1
      have hc1 : c ≤ maxLen := HS.out.2.1
      have hcapz : (ys.length : Int) + 1 ≤ (c : Int) := by omega
      rw [List.length_cons] at hyl
      cases q : (y == 0)
      · have HF := Lib.hid (HFin.out (by rw [← HE.out, leadZ_cons_stop y ys (by simpa using q)]))
        clear HFin
        rw [List.length_cons] at HF
        go_wp2_with (go_at_call 154; refine HF.out.mono ?_; rintro e w4 ⟨A', c', rfl, hs, hb⟩)
        go_ret
        exact ⟨A', c', rfl, hs, hb⟩
      · have hy : y = 0 := by simpa using q
        clear HFin
        go_wp2
        go_round
        case rel => exact ⟨_, c - 1, ys, rfl, by omega, HS.out.cons_cut2, by show _ = _; rw [← HE.out, hy, leadZ_cons_zero]⟩
        case measure => simp

set_option maxHeartbeats 1000000 in
theorem spec_TapeWord (es : List Value) (x : tTape) (w : World) (h : eTape.R w (Old w) es x) :
    Calls Try.prog 41 #[.agg es.toArray] w fun e w' => ∃ A' c', e = .returned (.tuple #[.slice A' (tapeWord x).1.length c', .int .i64 (tapeWord x).2]) ∧ Sl eInt w' (Old w') A' c' (tapeWord x).1 ∧ Below w.heap.size w w' := by
  obtain ⟨A0, c0, A1, c1, rfl, g0, g1⟩ := shape_Tape h
  clear h
  have HB : Hid (Below w.heap.size w (w.alloc (.cells #[.slice A0 x.1.length c0, .slice A1 x.2.length c1] 69))) := by show Below _ _ _; go_grown
  have hX := Blk.new w 69 #[.slice A0 x.1.length c0, .slice A1 x.2.length c1]
  have HG0 := Lib.hid (g0.on HB.out)
  have HG1 := Lib.hid (g1.on HB.out)
  have HC := Lib.hid (spec_l06Cells _ 0 x _ _ _ _ _ (hX.cell 0) (hX.cell 1) HG0.out HG1.out)
  have HX := Lib.hid hX
  clear g0 g1 hX
  cases q : readableT x
  · rw [show tapeWord x = ([], 1) from by unfold tapeWord; rw [q]; rfl]
    rw [q] at HC
    go_enter Try.func41, Try.ntmps41
    go_wp2_with (go_at_call 92; refine HC.out.mono ?_; rintro e w1 ⟨rfl, hd⟩)
    go_ret2
    exact ⟨none, 0, rfl, Sl.nil (Nat.zero_le _), below_trans HB.out hd.below⟩
  · rw [show tapeWord x = (trimZ (leadZ (tapeRow x)), 0) from by unfold tapeWord; rw [q]; rfl]
    rw [q] at HC
    obtain ⟨hl1, hl2⟩ := readableT_len q
    go_enter Try.func41, Try.ntmps41
    go_wp2_with fail
    refine HC.out.mono ?_
    rintro e w1 ⟨rfl, hd⟩
    have hX1 := HX.out.on hd.below
    have HW := Lib.hid (spec_l06Word _ x _ _ _ _ _ (hX1.cell 0) (hX1.cell 1) (HG0.out.on hd.below) (HG1.out.on hd.below) hl1 hl2)
    have HB1 := Lib.hid (below_trans HB.out hd.below)
    clear hd hX1
    go_wp2_with (go_at_call 102; refine HW.out.mono ?_; rintro e w2 ⟨A', c', rfl, hs, hb⟩)
    go_ret2
    exact ⟨A', c', rfl, hs.old, below_trans HB1.out hb⟩

theorem tapeWord_ct (x : tTape) : (ct_L (tapeWord x).1 : Int) ≤ 1000000000 := by
  have h1 := cntL_const ct_i 1 (tapeWord x).1 fun _ => rfl
  have h2 : (tapeWord x).1.length ≤ 400 := by
    unfold tapeWord
    cases q : readableT x
    · simp
    · obtain ⟨hl1, hl2⟩ := readableT_len q
      have h3 := trimZ_len (leadZ (tapeRow x))
      have h4 := leadZ_len (tapeRow x)
      have h5 : (tapeRow x).length = x.1.length + x.2.length := by unfold tapeRow; simp
      simp; omega
  unfold ct_L; omega

theorem cv_cost_Tape (x : tTape) : cv_Tape x ≤ 4 * cost_Tape x := by
  have h1 := ct_cost_L x.1
  have h2 := ct_cost_L x.2
  unfold cv_Tape cost_Tape; omega

set_option maxRecDepth 100000 in
set_option maxHeartbeats 8000000 in
theorem law_TapeWord (es0 : List Value) (a0 : tTape) (w : World) (h0 : eTape.R w (Old w) es0 a0) :
    Calls Try.prog 8 #[.agg es0.toArray] w fun e w' => e = .returned (.bool true) ∧ Below w.heap.size w w' := by
  have H0 := Lib.hid h0
  obtain ⟨Aa00, ca00, Aa01, ca01, rfl, ga00, ga01⟩ := shape_Tape h0
  clear ga00 ga01
  try clear h0
  have HBw := Lib.hid (Below.refl w.heap.size w)
  by_cases t0 : (1048576 : Int) - (cost_Tape a0 : Nat) < 0
  · go_enter Try.func8, Try.ntmps8
    go_wp2_with fail
    refine (sz_Tape _ a0 _ _ (by exact eTape.on H0.out (below_alloc HBw.out (.cells #[.slice Aa00 a0.1.length ca00, .slice Aa01 a0.2.length ca01] 65))) (by omega) (by omega)).mono ?_
    rintro e z0 ⟨rfl, hb⟩
    rw [left_neg (by omega)]
    have hbp : Below w.heap.size w z0 := below_trans (below_alloc (Below.refl _ _) (.cells #[.slice Aa00 a0.1.length ca00, .slice Aa01 a0.2.length ca01] 65)) hb
    have Zz0 : Hid (w.heap.size + 1 ≤ z0.heap.size) := by have h1 := hb.size; (try simp only [World.size_alloc, World.size_drew] at h1); show _ ≤ _; omega
    have HBz0 := Lib.hid (below_trans HBw.out hbp)
    have HXa0 := Lib.hid ((Blk.new w 65 #[.slice Aa00 a0.1.length ca00, .slice Aa01 a0.2.length ca01]).on hb)
    clear hbp hb
    have fa0_0 : z0.cell? ⟨w.heap.size, 0, none⟩ = some (.slice Aa00 a0.1.length ca00) := HXa0.out.cell 0
    have fa0_1 : z0.cell? ⟨w.heap.size, 1, none⟩ = some (.slice Aa01 a0.2.length ca01) := HXa0.out.cell 1
    go_wp2
    go_ret
    exact ⟨rfl, HBz0.out⟩
  have HC0 : Hid (cost_Tape a0 ≤ 1048576) := by show _ ≤ _; omega
  have HM0 : Hid ((cv_Tape a0 : Int) ≤ 10000000) := by have := HC0.out; have := cv_cost_Tape a0; show _ ≤ _; omega
  have HN0 : Hid ((ct_L (tapeWord a0).1 : Int) ≤ 1000000000) := (tapeWord_ct a0)
  go_enter Try.func8, Try.ntmps8
  go_wp2_with fail
  refine (sz_Tape _ a0 _ _ (by exact eTape.on H0.out (below_alloc HBw.out (.cells #[.slice Aa00 a0.1.length ca00, .slice Aa01 a0.2.length ca01] 65))) (by omega) (by omega)).mono ?_
  rintro e z0 ⟨rfl, hb⟩
  rw [left_pos (by omega)]
  have hbp : Below w.heap.size w z0 := below_trans (below_alloc (Below.refl _ _) (.cells #[.slice Aa00 a0.1.length ca00, .slice Aa01 a0.2.length ca01] 65)) hb
  have Zz0 : Hid (w.heap.size + 1 ≤ z0.heap.size) := by have h1 := hb.size; (try simp only [World.size_alloc, World.size_drew] at h1); show _ ≤ _; omega
  have HBz0 := Lib.hid (below_trans HBw.out hbp)
  have HXa0 := Lib.hid ((Blk.new w 65 #[.slice Aa00 a0.1.length ca00, .slice Aa01 a0.2.length ca01]).on hb)
  clear hbp hb
  have fa0_0 : z0.cell? ⟨w.heap.size, 0, none⟩ = some (.slice Aa00 a0.1.length ca00) := HXa0.out.cell 0
  have fa0_1 : z0.cell? ⟨w.heap.size, 1, none⟩ = some (.slice Aa01 a0.2.length ca01) := HXa0.out.cell 1
  go_wp2_with fail
  refine (to_Tape _ a0 _ (by exact eTape.on H0.out HBz0.out) HC0.out).mono ?_
  rintro e ws0 ⟨ess0, rfl, ho, hb⟩
  have hR := eTape.read ho
  have HSs0 := Lib.hid (eTape.omore ho (Iv.mono (l' := z0.heap.size) (h' := ws0.heap.size) (by first | exact Nat.le_refl _ | (simp only [World.size_alloc, World.size_drew]; omega) | (simp; omega)) (Nat.le_refl _))); clear ho
  obtain ⟨As00, cs00, As01, cs01, rfl, gs00, gs01⟩ := shape_Tape hR
  clear gs00 gs01
  try clear hR
  have hbp : Below z0.heap.size z0 ws0 := hb
  have Zws0 : Hid (z0.heap.size + 0 ≤ ws0.heap.size) := by have h1 := hb.size; (try simp only [World.size_alloc, World.size_drew] at h1); show _ ≤ _; omega
  have HBws0 := Lib.hid (below_trans HBz0.out hbp)
  have HXa0_ := Lib.hid (HXa0.out.on hbp); clear HXa0; have HXa0 := HXa0_; clear HXa0_
  clear hbp hb
  clear fa0_0 fa0_1
  have fa0_0 : ws0.cell? ⟨w.heap.size, 0, none⟩ = some (.slice Aa00 a0.1.length ca00) := HXa0.out.cell 0
  have fa0_1 : ws0.cell? ⟨w.heap.size, 1, none⟩ = some (.slice Aa01 a0.2.length ca01) := HXa0.out.cell 1
  go_wp2_with fail
  refine (spec_TapeWord _ a0 _ (by exact (eTape.more (eTape.read HSs0.out) (fun b hS => (by have q2 := hS.2; show _ < _; have zz0 := Zz0.out; have zws0 := Zws0.out; omega))))).mono ?_
  rintro e v0 ⟨Aw0, cw0, rfl, hs0, hb⟩
  have HW0 := Lib.hid hs0; clear hs0
  clear HSs0
  have hbp : Below ws0.heap.size ws0 v0 := hb
  have Zv0 : Hid (ws0.heap.size + 0 ≤ v0.heap.size) := by have h1 := hb.size; (try simp only [World.size_alloc, World.size_drew] at h1); show _ ≤ _; omega
  have HBv0 := Lib.hid (below_trans HBws0.out hbp)
  have HXa0_ := Lib.hid (HXa0.out.on hbp); clear HXa0; have HXa0 := HXa0_; clear HXa0_
  clear hbp hb
  clear fa0_0 fa0_1
  have fa0_0 : v0.cell? ⟨w.heap.size, 0, none⟩ = some (.slice Aa00 a0.1.length ca00) := HXa0.out.cell 0
  have fa0_1 : v0.cell? ⟨w.heap.size, 1, none⟩ = some (.slice Aa01 a0.2.length ca01) := HXa0.out.cell 1
  have HVv0 := Lib.hid (Below.refl v0.heap.size v0)
  go_wp2_with fail
  refine (to_Tape _ a0 _ (by exact eTape.on H0.out HBv0.out) HC0.out).mono ?_
  rintro e wx0 ⟨esx0, rfl, ho, hb⟩
  have hR := eTape.read ho
  have HSx0 := Lib.hid (eTape.omore ho (Iv.mono (l' := v0.heap.size) (h' := wx0.heap.size) (by first | exact Nat.le_refl _ | (simp only [World.size_alloc, World.size_drew]; omega) | (simp; omega)) (Nat.le_refl _))); clear ho
  obtain ⟨Ax00, cx00, Ax01, cx01, rfl, gx00, gx01⟩ := shape_Tape hR
  clear gx00 gx01
  try clear hR
  have hbp : Below v0.heap.size v0 wx0 := hb
  have Zwx0 : Hid (v0.heap.size + 0 ≤ wx0.heap.size) := by have h1 := hb.size; (try simp only [World.size_alloc, World.size_drew] at h1); show _ ≤ _; omega
  have HBwx0 := Lib.hid (below_trans HBv0.out hbp)
  have HVwx0 := Lib.hid (HVv0.out.trans (hbp.mono HVv0.out.size))
  have HXa0_ := Lib.hid (HXa0.out.on hbp); clear HXa0; have HXa0 := HXa0_; clear HXa0_
  clear hbp hb
  clear fa0_0 fa0_1
  have fa0_0 : wx0.cell? ⟨w.heap.size, 0, none⟩ = some (.slice Aa00 a0.1.length ca00) := HXa0.out.cell 0
  have fa0_1 : wx0.cell? ⟨w.heap.size, 1, none⟩ = some (.slice Aa01 a0.2.length ca01) := HXa0.out.cell 1
  have ma0_0 : (wx0.alloc (.cells #[.slice Ax00 a0.1.length cx00, .slice Ax01 a0.2.length cx01] 69)).cell? ⟨w.heap.size, 0, none⟩ = some (.slice Aa00 a0.1.length ca00) := (HXa0.out.alloc _).cell 0
  have ma0_1 : (wx0.alloc (.cells #[.slice Ax00 a0.1.length cx00, .slice Ax01 a0.2.length cx01] 69)).cell? ⟨w.heap.size, 1, none⟩ = some (.slice Aa01 a0.2.length ca01) := (HXa0.out.alloc _).cell 1
  have mx0_0 : (wx0.alloc (.cells #[.slice Ax00 a0.1.length cx00, .slice Ax01 a0.2.length cx01] 69)).cell? ⟨wx0.heap.size, 0, none⟩ = some (.slice Ax00 a0.1.length cx00) := (Blk.new wx0 69 #[.slice Ax00 a0.1.length cx00, .slice Ax01 a0.2.length cx01]).cell 0
  have mx0_1 : (wx0.alloc (.cells #[.slice Ax00 a0.1.length cx00, .slice Ax01 a0.2.length cx01] 69)).cell? ⟨wx0.heap.size, 1, none⟩ = some (.slice Ax01 a0.2.length cx01) := (Blk.new wx0 69 #[.slice Ax00 a0.1.length cx00, .slice Ax01 a0.2.length cx01]).cell 1
  go_wp2_with fail
  refine (impl_TapeWord _ a0 _ (by exact eTape.on (show eTape.R wx0 (Old wx0) _ _ from (eTape.more (eTape.read HSx0.out) (fun b hS => (by have q2 := hS.2; show _ < _; have zz0 := Zz0.out; have zws0 := Zws0.out; have zv0 := Zv0.out; have zwx0 := Zwx0.out; omega)))) (below_alloc (Below.refl _ _) (.cells #[.slice Ax00 a0.1.length cx00, .slice Ax01 a0.2.length cx01] 69)))).mono ?_
  rintro e vg ⟨Ag0, cg0, rfl, hs0, hb⟩
  have HSg0 := Lib.hid (hs0.more (Iv.mono (l' := wx0.heap.size + 1) (h' := vg.heap.size) (by first | exact Nat.le_refl _ | (simp only [World.size_alloc, World.size_drew]; omega) | (simp; omega)) (Nat.le_refl _))); clear hs0
  have hbp : Below wx0.heap.size wx0 vg := below_trans (below_alloc (Below.refl _ _) (.cells #[.slice Ax00 a0.1.length cx00, .slice Ax01 a0.2.length cx01] 69)) hb
  have Zvg : Hid (wx0.heap.size + 1 ≤ vg.heap.size) := by have h1 := hb.size; (try simp only [World.size_alloc, World.size_drew] at h1); show _ ≤ _; omega
  have HBvg := Lib.hid (below_trans HBwx0.out hbp)
  have HVvg := Lib.hid (HVwx0.out.trans (hbp.mono HVwx0.out.size))
  have HXa0_ := Lib.hid (HXa0.out.on hbp); clear HXa0; have HXa0 := HXa0_; clear HXa0_
  have HXx0 := Lib.hid ((Blk.new wx0 69 #[.slice Ax00 a0.1.length cx00, .slice Ax01 a0.2.length cx01]).on hb)
  have HSx0_ := Lib.hid (eTape.okeep HSx0.out (fun b hS => hbp.block b (by have q1 := hS.1; have q2 := hS.2; have zz0 := Zz0.out; have zws0 := Zws0.out; have zv0 := Zv0.out; have zwx0 := Zwx0.out; omega))); clear HSx0; have HSx0 := HSx0_; clear HSx0_
  clear hbp hb
  clear fa0_0 fa0_1 ma0_0 ma0_1 mx0_0 mx0_1
  have fa0_0 : vg.cell? ⟨w.heap.size, 0, none⟩ = some (.slice Aa00 a0.1.length ca00) := HXa0.out.cell 0
  have fa0_1 : vg.cell? ⟨w.heap.size, 1, none⟩ = some (.slice Aa01 a0.2.length ca01) := HXa0.out.cell 1
  have fx0_0 : vg.cell? ⟨wx0.heap.size, 0, none⟩ = some (.slice Ax00 a0.1.length cx00) := HXx0.out.cell 0
  have fx0_1 : vg.cell? ⟨wx0.heap.size, 1, none⟩ = some (.slice Ax01 a0.2.length cx01) := HXx0.out.cell 1
  go_wp2_with fail
  refine (eq_L_c _ _ _ _ (tapeWord a0).1 (tapeWord a0).1 _ (by exact (HSg0.out.sl.more (fun b hS => (by have q2 := hS.2; show _ < _; have zz0 := Zz0.out; have zws0 := Zws0.out; have zv0 := Zv0.out; have zwx0 := Zwx0.out; have zvg := Zvg.out; omega)))) (by exact ((HW0.out.keep (fun b hS => HVvg.out.cell hS)).more (fun b hS => Nat.lt_of_lt_of_le hS HVvg.out.size)))).mono ?_
  rintro e qa0 ⟨rfl, hb⟩
  rw [eq_L_refl]
  have hbp : Below vg.heap.size vg qa0 := hb
  have Zqa0 : Hid (vg.heap.size + 0 ≤ qa0.heap.size) := by have h1 := hb.size; (try simp only [World.size_alloc, World.size_drew] at h1); show _ ≤ _; omega
  have HBqa0 := Lib.hid (below_trans HBvg.out hbp)
  have HVqa0 := Lib.hid (HVvg.out.trans (hbp.mono HVvg.out.size))
  have HXa0_ := Lib.hid (HXa0.out.on hbp); clear HXa0; have HXa0 := HXa0_; clear HXa0_
  have HXx0_ := Lib.hid (HXx0.out.on hbp); clear HXx0; have HXx0 := HXx0_; clear HXx0_
  have HSx0_ := Lib.hid (eTape.okeep HSx0.out (fun b hS => hbp.block b (by have q1 := hS.1; have q2 := hS.2; have zz0 := Zz0.out; have zws0 := Zws0.out; have zv0 := Zv0.out; have zwx0 := Zwx0.out; have zvg := Zvg.out; omega))); clear HSx0; have HSx0 := HSx0_; clear HSx0_
  have HSg0_ := Lib.hid (HSg0.out.keep (fun b hS => hbp.block b (by have q1 := hS.1; have q2 := hS.2; have zz0 := Zz0.out; have zws0 := Zws0.out; have zv0 := Zv0.out; have zwx0 := Zwx0.out; have zvg := Zvg.out; omega))); clear HSg0; have HSg0 := HSg0_; clear HSg0_
  clear hbp hb
  clear fa0_0 fa0_1 fx0_0 fx0_1
  have fa0_0 : qa0.cell? ⟨w.heap.size, 0, none⟩ = some (.slice Aa00 a0.1.length ca00) := HXa0.out.cell 0
  have fa0_1 : qa0.cell? ⟨w.heap.size, 1, none⟩ = some (.slice Aa01 a0.2.length ca01) := HXa0.out.cell 1
  have fx0_0 : qa0.cell? ⟨wx0.heap.size, 0, none⟩ = some (.slice Ax00 a0.1.length cx00) := HXx0.out.cell 0
  have fx0_1 : qa0.cell? ⟨wx0.heap.size, 1, none⟩ = some (.slice Ax01 a0.2.length cx01) := HXx0.out.cell 1
  go_wp2_with fail
  go_region_held3 (fun w' => w'.cell? ⟨w.heap.size, 0, none⟩ = some (.slice Aa00 a0.1.length ca00) ∧ w'.cell? ⟨w.heap.size, 1, none⟩ = some (.slice Aa01 a0.2.length ca01) ∧ w'.cell? ⟨wx0.heap.size, 0, none⟩ = some (.slice Ax00 a0.1.length cx00) ∧ w'.cell? ⟨wx0.heap.size, 1, none⟩ = some (.slice Ax01 a0.2.length cx01)) (first | (simp [go_sem, *]; done) | (refine ⟨?_, ?_, ?_, ?_⟩ <;> assumption))
    (first
      | (go_at_call 42; refine (to_Tape _ a0 _ (by exact eTape.on H0.out (HBqa0.out.drew)) HC0.out).mono ?_; rintro e wy0 ⟨esy0, rfl, ho, hb⟩; (have hR := eTape.read ho); (have HSy0 := Lib.hid (eTape.omore ho (Iv.mono (l' := qa0.heap.size) (h' := wy0.heap.size) (by first | exact Nat.le_refl _ | (simp only [World.size_alloc, World.size_drew]; omega) | (simp; omega)) (Nat.le_refl _))); clear ho); (obtain ⟨Ay00, cy00, Ay01, cy01, rfl, gy00, gy01⟩ := shape_Tape hR); (clear gy00 gy01); (try clear hR); (have hbp : Below qa0.heap.size qa0 wy0 := below_trans ((Below.refl _ _).drew) hb); (have Zwy0 : Hid (qa0.heap.size + 0 ≤ wy0.heap.size) := by have h1 := hb.size; (try simp only [World.size_alloc, World.size_drew] at h1); show _ ≤ _; omega); (have HBwy0 := Lib.hid (below_trans HBqa0.out hbp)); (have HVwy0 := Lib.hid (HVqa0.out.trans (hbp.mono HVqa0.out.size))); (have HXa0_ := Lib.hid (HXa0.out.on hbp); clear HXa0; have HXa0 := HXa0_; clear HXa0_); (have HXx0_ := Lib.hid (HXx0.out.on hbp); clear HXx0; have HXx0 := HXx0_; clear HXx0_); (have HSx0_ := Lib.hid (eTape.okeep HSx0.out (fun b hS => hbp.block b (by have q1 := hS.1; have q2 := hS.2; have zz0 := Zz0.out; have zws0 := Zws0.out; have zv0 := Zv0.out; have zwx0 := Zwx0.out; have zvg := Zvg.out; have zqa0 := Zqa0.out; omega))); clear HSx0; have HSx0 := HSx0_; clear HSx0_); (have HSg0_ := Lib.hid (HSg0.out.keep (fun b hS => hbp.block b (by have q1 := hS.1; have q2 := hS.2; have zz0 := Zz0.out; have zws0 := Zws0.out; have zv0 := Zv0.out; have zwx0 := Zwx0.out; have zvg := Zvg.out; have zqa0 := Zqa0.out; omega))); clear HSg0; have HSg0 := HSg0_; clear HSg0_); (clear hbp hb); (clear fa0_0 fa0_1 fx0_0 fx0_1); (have fa0_0 : wy0.cell? ⟨w.heap.size, 0, none⟩ = some (.slice Aa00 a0.1.length ca00) := HXa0.out.cell 0); (have fa0_1 : wy0.cell? ⟨w.heap.size, 1, none⟩ = some (.slice Aa01 a0.2.length ca01) := HXa0.out.cell 1); (have fx0_0 : wy0.cell? ⟨wx0.heap.size, 0, none⟩ = some (.slice Ax00 a0.1.length cx00) := HXx0.out.cell 0); (have fx0_1 : wy0.cell? ⟨wx0.heap.size, 1, none⟩ = some (.slice Ax01 a0.2.length cx01) := HXx0.out.cell 1))
      | (go_at_call 45; refine (eq_Tape_c _ _ a0 a0 _ (by exact (eTape.more (eTape.read HSx0.out) (fun b hS => (by have q2 := hS.2; show _ < _; have zz0 := Zz0.out; have zws0 := Zws0.out; have zv0 := Zv0.out; have zwx0 := Zwx0.out; have zvg := Zvg.out; have zqa0 := Zqa0.out; have zwy0 := Zwy0.out; omega)))) (by exact (eTape.more (eTape.read HSy0.out) (fun b hS => (by have q2 := hS.2; show _ < _; have zz0 := Zz0.out; have zws0 := Zws0.out; have zv0 := Zv0.out; have zwx0 := Zwx0.out; have zvg := Zvg.out; have zqa0 := Zqa0.out; have zwy0 := Zwy0.out; omega))))).mono ?_; rintro e u0 ⟨rfl, hb⟩; rw [eq_Tape_refl]; (clear HSy0); (have hbp : Below wy0.heap.size wy0 u0 := hb); (have Zu0 : Hid (wy0.heap.size + 0 ≤ u0.heap.size) := by have h1 := hb.size; (try simp only [World.size_alloc, World.size_drew] at h1); show _ ≤ _; omega); (have HBu0 := Lib.hid (below_trans HBwy0.out hbp)); (have HVu0 := Lib.hid (HVwy0.out.trans (hbp.mono HVwy0.out.size))); (have HXa0_ := Lib.hid (HXa0.out.on hbp); clear HXa0; have HXa0 := HXa0_; clear HXa0_); (have HXx0_ := Lib.hid (HXx0.out.on hbp); clear HXx0; have HXx0 := HXx0_; clear HXx0_); (have HSx0_ := Lib.hid (eTape.okeep HSx0.out (fun b hS => hbp.block b (by have q1 := hS.1; have q2 := hS.2; have zz0 := Zz0.out; have zws0 := Zws0.out; have zv0 := Zv0.out; have zwx0 := Zwx0.out; have zvg := Zvg.out; have zqa0 := Zqa0.out; have zwy0 := Zwy0.out; omega))); clear HSx0; have HSx0 := HSx0_; clear HSx0_); (have HSg0_ := Lib.hid (HSg0.out.keep (fun b hS => hbp.block b (by have q1 := hS.1; have q2 := hS.2; have zz0 := Zz0.out; have zws0 := Zws0.out; have zv0 := Zv0.out; have zwx0 := Zwx0.out; have zvg := Zvg.out; have zqa0 := Zqa0.out; have zwy0 := Zwy0.out; omega))); clear HSg0; have HSg0 := HSg0_; clear HSg0_); (clear hbp hb); (clear fa0_0 fa0_1 fx0_0 fx0_1); (have fa0_0 : u0.cell? ⟨w.heap.size, 0, none⟩ = some (.slice Aa00 a0.1.length ca00) := HXa0.out.cell 0); (have fa0_1 : u0.cell? ⟨w.heap.size, 1, none⟩ = some (.slice Aa01 a0.2.length ca01) := HXa0.out.cell 1); (have fx0_0 : u0.cell? ⟨wx0.heap.size, 0, none⟩ = some (.slice Ax00 a0.1.length cx00) := HXx0.out.cell 0); (have fx0_1 : u0.cell? ⟨wx0.heap.size, 1, none⟩ = some (.slice Ax01 a0.2.length cx01) := HXx0.out.cell 1)))
  go_wp2_with fail
  refine (mark_Tape_c _ a0 _ _ _ HSx0.out (fun b hS => (by have q2 := hS.2; have zz0 := Zz0.out; have zws0 := Zws0.out; have zv0 := Zv0.out; have zwx0 := Zwx0.out; have zvg := Zvg.out; have zqa0 := Zqa0.out; have zwy0 := Zwy0.out; have zu0 := Zu0.out; omega)) (by omega) (by have := HM0.out; omega)).mono ?_
  rintro e mx0 ⟨rfl, hs, hc⟩
  clear HSx0; have HSx0 := Lib.hid hs; clear hs
  have Zmx0 : Hid (u0.heap.size + 0 ≤ mx0.heap.size) := by have h1 := hc.size; (try simp only [World.size_alloc, World.size_drew] at h1); show _ ≤ _; omega
  have HBmx0 := Lib.hid (HBu0.out.trans (hc.below HBu0.out.size (fun b hS => (by have q1 := hS.1; have zz0 := Zz0.out; have zws0 := Zws0.out; have zv0 := Zv0.out; have zwx0 := Zwx0.out; have zvg := Zvg.out; have zqa0 := Zqa0.out; have zwy0 := Zwy0.out; have zu0 := Zu0.out; omega))))
  have HVmx0 := Lib.hid (HVu0.out.trans (hc.below HVu0.out.size (fun b hS => (by have q1 := hS.1; have zz0 := Zz0.out; have zws0 := Zws0.out; have zv0 := Zv0.out; have zwx0 := Zwx0.out; have zvg := Zvg.out; have zqa0 := Zqa0.out; have zwy0 := Zwy0.out; have zu0 := Zu0.out; omega))))
  have HXa0_ := Lib.hid (HXa0.out.chg hc (fun hS => (by have q1 := hS.1; have q2 := hS.2; have zz0 := Zz0.out; have zws0 := Zws0.out; have zv0 := Zv0.out; have zwx0 := Zwx0.out; have zvg := Zvg.out; have zqa0 := Zqa0.out; have zwy0 := Zwy0.out; have zu0 := Zu0.out; omega))); clear HXa0; have HXa0 := HXa0_; clear HXa0_
  have HXx0_ := Lib.hid (HXx0.out.chg hc (fun hS => (by have q1 := hS.1; have q2 := hS.2; have zz0 := Zz0.out; have zws0 := Zws0.out; have zv0 := Zv0.out; have zwx0 := Zwx0.out; have zvg := Zvg.out; have zqa0 := Zqa0.out; have zwy0 := Zwy0.out; have zu0 := Zu0.out; omega))); clear HXx0; have HXx0 := HXx0_; clear HXx0_
  have HSg0_ := Lib.hid (HSg0.out.keep (fun b hS => hc.block b (by have q2 := hS.2; have zz0 := Zz0.out; have zws0 := Zws0.out; have zv0 := Zv0.out; have zwx0 := Zwx0.out; have zvg := Zvg.out; have zqa0 := Zqa0.out; have zwy0 := Zwy0.out; have zu0 := Zu0.out; omega) (fun hT => (by have q1 := hS.1; have q2 := hS.2; have q3 := hT.1; have q4 := hT.2; have zz0 := Zz0.out; have zws0 := Zws0.out; have zv0 := Zv0.out; have zwx0 := Zwx0.out; have zvg := Zvg.out; have zqa0 := Zqa0.out; have zwy0 := Zwy0.out; have zu0 := Zu0.out; omega)))); clear HSg0; have HSg0 := HSg0_; clear HSg0_
  clear hc
  clear fa0_0 fa0_1 fx0_0 fx0_1
  have fa0_0 : mx0.cell? ⟨w.heap.size, 0, none⟩ = some (.slice Aa00 a0.1.length ca00) := HXa0.out.cell 0
  have fa0_1 : mx0.cell? ⟨w.heap.size, 1, none⟩ = some (.slice Aa01 a0.2.length ca01) := HXa0.out.cell 1
  have fx0_0 : mx0.cell? ⟨wx0.heap.size, 0, none⟩ = some (.slice Ax00 a0.1.length cx00) := HXx0.out.cell 0
  have fx0_1 : mx0.cell? ⟨wx0.heap.size, 1, none⟩ = some (.slice Ax01 a0.2.length cx01) := HXx0.out.cell 1
  have kpos : decide (1 + (cv_Tape a0 : Int) < 0) = false := decide_eq_false (by omega)
  go_wp2_with fail
  refine (eq_L_c _ _ _ _ (tapeWord a0).1 (tapeWord a0).1 _ (by exact (HSg0.out.sl.more (fun b hS => (by have q2 := hS.2; show _ < _; have zz0 := Zz0.out; have zws0 := Zws0.out; have zv0 := Zv0.out; have zwx0 := Zwx0.out; have zvg := Zvg.out; have zqa0 := Zqa0.out; have zwy0 := Zwy0.out; have zu0 := Zu0.out; have zmx0 := Zmx0.out; omega)))) (by exact ((HW0.out.keep (fun b hS => HVmx0.out.cell hS)).more (fun b hS => Nat.lt_of_lt_of_le hS HVmx0.out.size)))).mono ?_
  rintro e qb0 ⟨rfl, hb⟩
  rw [eq_L_refl]
  have hbp : Below mx0.heap.size mx0 qb0 := hb
  have Zqb0 : Hid (mx0.heap.size + 0 ≤ qb0.heap.size) := by have h1 := hb.size; (try simp only [World.size_alloc, World.size_drew] at h1); show _ ≤ _; omega
  have HBqb0 := Lib.hid (below_trans HBmx0.out hbp)
  have HVqb0 := Lib.hid (HVmx0.out.trans (hbp.mono HVmx0.out.size))
  have HXa0_ := Lib.hid (HXa0.out.on hbp); clear HXa0; have HXa0 := HXa0_; clear HXa0_
  have HXx0_ := Lib.hid (HXx0.out.on hbp); clear HXx0; have HXx0 := HXx0_; clear HXx0_
  have HSx0_ := Lib.hid (eTape.okeep HSx0.out (fun b hS => hbp.block b (by have q1 := hS.1; have q2 := hS.2; have zz0 := Zz0.out; have zws0 := Zws0.out; have zv0 := Zv0.out; have zwx0 := Zwx0.out; have zvg := Zvg.out; have zqa0 := Zqa0.out; have zwy0 := Zwy0.out; have zu0 := Zu0.out; have zmx0 := Zmx0.out; omega))); clear HSx0; have HSx0 := HSx0_; clear HSx0_
  have HSg0_ := Lib.hid (HSg0.out.keep (fun b hS => hbp.block b (by have q1 := hS.1; have q2 := hS.2; have zz0 := Zz0.out; have zws0 := Zws0.out; have zv0 := Zv0.out; have zwx0 := Zwx0.out; have zvg := Zvg.out; have zqa0 := Zqa0.out; have zwy0 := Zwy0.out; have zu0 := Zu0.out; have zmx0 := Zmx0.out; omega))); clear HSg0; have HSg0 := HSg0_; clear HSg0_
  clear hbp hb
  clear fa0_0 fa0_1 fx0_0 fx0_1
  have fa0_0 : qb0.cell? ⟨w.heap.size, 0, none⟩ = some (.slice Aa00 a0.1.length ca00) := HXa0.out.cell 0
  have fa0_1 : qb0.cell? ⟨w.heap.size, 1, none⟩ = some (.slice Aa01 a0.2.length ca01) := HXa0.out.cell 1
  have fx0_0 : qb0.cell? ⟨wx0.heap.size, 0, none⟩ = some (.slice Ax00 a0.1.length cx00) := HXx0.out.cell 0
  have fx0_1 : qb0.cell? ⟨wx0.heap.size, 1, none⟩ = some (.slice Ax01 a0.2.length cx01) := HXx0.out.cell 1
  go_wp2_with fail
  refine (mark_L_c _ _ (tapeWord a0).1 _ _ _ HSg0.out (fun b hS => (by have q2 := hS.2; have zz0 := Zz0.out; have zws0 := Zws0.out; have zv0 := Zv0.out; have zwx0 := Zwx0.out; have zvg := Zvg.out; have zqa0 := Zqa0.out; have zwy0 := Zwy0.out; have zu0 := Zu0.out; have zmx0 := Zmx0.out; have zqb0 := Zqb0.out; omega)) (by omega) (by have := HN0.out; omega)).mono ?_
  rintro e mg0 ⟨rfl, hs, hc⟩
  clear HSg0; have HSg0 := Lib.hid hs; clear hs
  have Zmg0 : Hid (qb0.heap.size + 0 ≤ mg0.heap.size) := by have h1 := hc.size; (try simp only [World.size_alloc, World.size_drew] at h1); show _ ≤ _; omega
  have HBmg0 := Lib.hid (HBqb0.out.trans (hc.below HBqb0.out.size (fun b hS => (by have q1 := hS.1; have zz0 := Zz0.out; have zws0 := Zws0.out; have zv0 := Zv0.out; have zwx0 := Zwx0.out; have zvg := Zvg.out; have zqa0 := Zqa0.out; have zwy0 := Zwy0.out; have zu0 := Zu0.out; have zmx0 := Zmx0.out; have zqb0 := Zqb0.out; omega))))
  have HVmg0 := Lib.hid (HVqb0.out.trans (hc.below HVqb0.out.size (fun b hS => (by have q1 := hS.1; have zz0 := Zz0.out; have zws0 := Zws0.out; have zv0 := Zv0.out; have zwx0 := Zwx0.out; have zvg := Zvg.out; have zqa0 := Zqa0.out; have zwy0 := Zwy0.out; have zu0 := Zu0.out; have zmx0 := Zmx0.out; have zqb0 := Zqb0.out; omega))))
  have HXa0_ := Lib.hid (HXa0.out.chg hc (fun hS => (by have q1 := hS.1; have q2 := hS.2; have zz0 := Zz0.out; have zws0 := Zws0.out; have zv0 := Zv0.out; have zwx0 := Zwx0.out; have zvg := Zvg.out; have zqa0 := Zqa0.out; have zwy0 := Zwy0.out; have zu0 := Zu0.out; have zmx0 := Zmx0.out; have zqb0 := Zqb0.out; omega))); clear HXa0; have HXa0 := HXa0_; clear HXa0_
  have HXx0_ := Lib.hid (HXx0.out.chg hc (fun hS => (by have q1 := hS.1; have q2 := hS.2; have zz0 := Zz0.out; have zws0 := Zws0.out; have zv0 := Zv0.out; have zwx0 := Zwx0.out; have zvg := Zvg.out; have zqa0 := Zqa0.out; have zwy0 := Zwy0.out; have zu0 := Zu0.out; have zmx0 := Zmx0.out; have zqb0 := Zqb0.out; omega))); clear HXx0; have HXx0 := HXx0_; clear HXx0_
  have HSx0_ := Lib.hid (eTape.okeep HSx0.out (fun b hS => hc.block b (by have q2 := hS.2; have zz0 := Zz0.out; have zws0 := Zws0.out; have zv0 := Zv0.out; have zwx0 := Zwx0.out; have zvg := Zvg.out; have zqa0 := Zqa0.out; have zwy0 := Zwy0.out; have zu0 := Zu0.out; have zmx0 := Zmx0.out; have zqb0 := Zqb0.out; omega) (fun hT => (by have q1 := hS.1; have q2 := hS.2; have q3 := hT.1; have q4 := hT.2; have zz0 := Zz0.out; have zws0 := Zws0.out; have zv0 := Zv0.out; have zwx0 := Zwx0.out; have zvg := Zvg.out; have zqa0 := Zqa0.out; have zwy0 := Zwy0.out; have zu0 := Zu0.out; have zmx0 := Zmx0.out; have zqb0 := Zqb0.out; omega)))); clear HSx0; have HSx0 := HSx0_; clear HSx0_
  clear hc
  clear fa0_0 fa0_1 fx0_0 fx0_1
  have fa0_0 : mg0.cell? ⟨w.heap.size, 0, none⟩ = some (.slice Aa00 a0.1.length ca00) := HXa0.out.cell 0
  have fa0_1 : mg0.cell? ⟨w.heap.size, 1, none⟩ = some (.slice Aa01 a0.2.length ca01) := HXa0.out.cell 1
  have fx0_0 : mg0.cell? ⟨wx0.heap.size, 0, none⟩ = some (.slice Ax00 a0.1.length cx00) := HXx0.out.cell 0
  have fx0_1 : mg0.cell? ⟨wx0.heap.size, 1, none⟩ = some (.slice Ax01 a0.2.length cx01) := HXx0.out.cell 1
  go_wp2_with fail
  refine (held_L_c _ _ (tapeWord a0).1 _ _ (by exact (HSg0.out.sl.more (fun b hS => (by have q2 := hS.2; show _ < _; have zz0 := Zz0.out; have zws0 := Zws0.out; have zv0 := Zv0.out; have zwx0 := Zwx0.out; have zvg := Zvg.out; have zqa0 := Zqa0.out; have zwy0 := Zwy0.out; have zu0 := Zu0.out; have zmx0 := Zmx0.out; have zqb0 := Zqb0.out; have zmg0 := Zmg0.out; omega)))) (by omega) (by have := HN0.out; omega)).mono ?_
  rintro e d0 ⟨rfl, hb⟩
  have hbp : Below mg0.heap.size mg0 d0 := hb
  have Zd0 : Hid (mg0.heap.size + 0 ≤ d0.heap.size) := by have h1 := hb.size; (try simp only [World.size_alloc, World.size_drew] at h1); show _ ≤ _; omega
  have HBd0 := Lib.hid (below_trans HBmg0.out hbp)
  have HVd0 := Lib.hid (HVmg0.out.trans (hbp.mono HVmg0.out.size))
  have HXa0_ := Lib.hid (HXa0.out.on hbp); clear HXa0; have HXa0 := HXa0_; clear HXa0_
  have HXx0_ := Lib.hid (HXx0.out.on hbp); clear HXx0; have HXx0 := HXx0_; clear HXx0_
  have HSx0_ := Lib.hid (eTape.okeep HSx0.out (fun b hS => hbp.block b (by have q1 := hS.1; have q2 := hS.2; have zz0 := Zz0.out; have zws0 := Zws0.out; have zv0 := Zv0.out; have zwx0 := Zwx0.out; have zvg := Zvg.out; have zqa0 := Zqa0.out; have zwy0 := Zwy0.out; have zu0 := Zu0.out; have zmx0 := Zmx0.out; have zqb0 := Zqb0.out; have zmg0 := Zmg0.out; omega))); clear HSx0; have HSx0 := HSx0_; clear HSx0_
  have HSg0_ := Lib.hid (HSg0.out.keep (fun b hS => hbp.block b (by have q1 := hS.1; have q2 := hS.2; have zz0 := Zz0.out; have zws0 := Zws0.out; have zv0 := Zv0.out; have zwx0 := Zwx0.out; have zvg := Zvg.out; have zqa0 := Zqa0.out; have zwy0 := Zwy0.out; have zu0 := Zu0.out; have zmx0 := Zmx0.out; have zqb0 := Zqb0.out; have zmg0 := Zmg0.out; omega))); clear HSg0; have HSg0 := HSg0_; clear HSg0_
  clear hbp hb
  clear fa0_0 fa0_1 fx0_0 fx0_1
  have fa0_0 : d0.cell? ⟨w.heap.size, 0, none⟩ = some (.slice Aa00 a0.1.length ca00) := HXa0.out.cell 0
  have fa0_1 : d0.cell? ⟨w.heap.size, 1, none⟩ = some (.slice Aa01 a0.2.length ca01) := HXa0.out.cell 1
  have fx0_0 : d0.cell? ⟨wx0.heap.size, 0, none⟩ = some (.slice Ax00 a0.1.length cx00) := HXx0.out.cell 0
  have fx0_1 : d0.cell? ⟨wx0.heap.size, 1, none⟩ = some (.slice Ax01 a0.2.length cx01) := HXx0.out.cell 1
  have mpos : ¬ (1 + (ct_L (tapeWord a0).1 : Int)) < 0 := by omega
  go_wp2_with fail
  refine (to_Tape _ a0 _ (by exact eTape.on H0.out HBd0.out) HC0.out).mono ?_
  rintro e wt0 ⟨est0, rfl, ho, hb⟩
  have hR := eTape.read ho
  have HSt0 := Lib.hid (eTape.omore ho (Iv.mono (l' := d0.heap.size) (h' := wt0.heap.size) (by first | exact Nat.le_refl _ | (simp only [World.size_alloc, World.size_drew]; omega) | (simp; omega)) (Nat.le_refl _))); clear ho
  obtain ⟨At00, ct00, At01, ct01, rfl, gt00, gt01⟩ := shape_Tape hR
  clear gt00 gt01
  try clear hR
  have hbp : Below d0.heap.size d0 wt0 := hb
  have Zwt0 : Hid (d0.heap.size + 0 ≤ wt0.heap.size) := by have h1 := hb.size; (try simp only [World.size_alloc, World.size_drew] at h1); show _ ≤ _; omega
  have HBwt0 := Lib.hid (below_trans HBd0.out hbp)
  have HVwt0 := Lib.hid (HVd0.out.trans (hbp.mono HVd0.out.size))
  have HXa0_ := Lib.hid (HXa0.out.on hbp); clear HXa0; have HXa0 := HXa0_; clear HXa0_
  have HXx0_ := Lib.hid (HXx0.out.on hbp); clear HXx0; have HXx0 := HXx0_; clear HXx0_
  have HSx0_ := Lib.hid (eTape.okeep HSx0.out (fun b hS => hbp.block b (by have q1 := hS.1; have q2 := hS.2; have zz0 := Zz0.out; have zws0 := Zws0.out; have zv0 := Zv0.out; have zwx0 := Zwx0.out; have zvg := Zvg.out; have zqa0 := Zqa0.out; have zwy0 := Zwy0.out; have zu0 := Zu0.out; have zmx0 := Zmx0.out; have zqb0 := Zqb0.out; have zmg0 := Zmg0.out; have zd0 := Zd0.out; omega))); clear HSx0; have HSx0 := HSx0_; clear HSx0_
  have HSg0_ := Lib.hid (HSg0.out.keep (fun b hS => hbp.block b (by have q1 := hS.1; have q2 := hS.2; have zz0 := Zz0.out; have zws0 := Zws0.out; have zv0 := Zv0.out; have zwx0 := Zwx0.out; have zvg := Zvg.out; have zqa0 := Zqa0.out; have zwy0 := Zwy0.out; have zu0 := Zu0.out; have zmx0 := Zmx0.out; have zqb0 := Zqb0.out; have zmg0 := Zmg0.out; have zd0 := Zd0.out; omega))); clear HSg0; have HSg0 := HSg0_; clear HSg0_
  clear hbp hb
  clear fa0_0 fa0_1 fx0_0 fx0_1
  have fa0_0 : wt0.cell? ⟨w.heap.size, 0, none⟩ = some (.slice Aa00 a0.1.length ca00) := HXa0.out.cell 0
  have fa0_1 : wt0.cell? ⟨w.heap.size, 1, none⟩ = some (.slice Aa01 a0.2.length ca01) := HXa0.out.cell 1
  have fx0_0 : wt0.cell? ⟨wx0.heap.size, 0, none⟩ = some (.slice Ax00 a0.1.length cx00) := HXx0.out.cell 0
  have fx0_1 : wt0.cell? ⟨wx0.heap.size, 1, none⟩ = some (.slice Ax01 a0.2.length cx01) := HXx0.out.cell 1
  go_wp2_with fail
  refine (impl_TapeWord _ a0 _ (by exact (eTape.more (eTape.read HSt0.out) (fun b hS => (by have q2 := hS.2; show _ < _; have zz0 := Zz0.out; have zws0 := Zws0.out; have zv0 := Zv0.out; have zwx0 := Zwx0.out; have zvg := Zvg.out; have zqa0 := Zqa0.out; have zwy0 := Zwy0.out; have zu0 := Zu0.out; have zmx0 := Zmx0.out; have zqb0 := Zqb0.out; have zmg0 := Zmg0.out; have zd0 := Zd0.out; have zwt0 := Zwt0.out; omega))))).mono ?_
  rintro e vh ⟨Ah0, ch0, rfl, hs0, hb⟩
  have HSh0 := Lib.hid (hs0.more (Iv.mono (l' := wt0.heap.size) (h' := vh.heap.size) (by first | exact Nat.le_refl _ | (simp only [World.size_alloc, World.size_drew]; omega) | (simp; omega)) (Nat.le_refl _))); clear hs0
  clear HSt0
  have hbp : Below wt0.heap.size wt0 vh := hb
  have Zvh : Hid (wt0.heap.size + 0 ≤ vh.heap.size) := by have h1 := hb.size; (try simp only [World.size_alloc, World.size_drew] at h1); show _ ≤ _; omega
  have HBvh := Lib.hid (below_trans HBwt0.out hbp)
  have HVvh := Lib.hid (HVwt0.out.trans (hbp.mono HVwt0.out.size))
  have HXa0_ := Lib.hid (HXa0.out.on hbp); clear HXa0; have HXa0 := HXa0_; clear HXa0_
  have HXx0_ := Lib.hid (HXx0.out.on hbp); clear HXx0; have HXx0 := HXx0_; clear HXx0_
  have HSx0_ := Lib.hid (eTape.okeep HSx0.out (fun b hS => hbp.block b (by have q1 := hS.1; have q2 := hS.2; have zz0 := Zz0.out; have zws0 := Zws0.out; have zv0 := Zv0.out; have zwx0 := Zwx0.out; have zvg := Zvg.out; have zqa0 := Zqa0.out; have zwy0 := Zwy0.out; have zu0 := Zu0.out; have zmx0 := Zmx0.out; have zqb0 := Zqb0.out; have zmg0 := Zmg0.out; have zd0 := Zd0.out; have zwt0 := Zwt0.out; omega))); clear HSx0; have HSx0 := HSx0_; clear HSx0_
  have HSg0_ := Lib.hid (HSg0.out.keep (fun b hS => hbp.block b (by have q1 := hS.1; have q2 := hS.2; have zz0 := Zz0.out; have zws0 := Zws0.out; have zv0 := Zv0.out; have zwx0 := Zwx0.out; have zvg := Zvg.out; have zqa0 := Zqa0.out; have zwy0 := Zwy0.out; have zu0 := Zu0.out; have zmx0 := Zmx0.out; have zqb0 := Zqb0.out; have zmg0 := Zmg0.out; have zd0 := Zd0.out; have zwt0 := Zwt0.out; omega))); clear HSg0; have HSg0 := HSg0_; clear HSg0_
  clear hbp hb
  clear fa0_0 fa0_1 fx0_0 fx0_1
  have fa0_0 : vh.cell? ⟨w.heap.size, 0, none⟩ = some (.slice Aa00 a0.1.length ca00) := HXa0.out.cell 0
  have fa0_1 : vh.cell? ⟨w.heap.size, 1, none⟩ = some (.slice Aa01 a0.2.length ca01) := HXa0.out.cell 1
  have fx0_0 : vh.cell? ⟨wx0.heap.size, 0, none⟩ = some (.slice Ax00 a0.1.length cx00) := HXx0.out.cell 0
  have fx0_1 : vh.cell? ⟨wx0.heap.size, 1, none⟩ = some (.slice Ax01 a0.2.length cx01) := HXx0.out.cell 1
  go_wp2_with fail
  refine (eq_L_c _ _ _ _ (tapeWord a0).1 (tapeWord a0).1 _ (by exact (HSh0.out.sl.more (fun b hS => (by have q2 := hS.2; show _ < _; have zz0 := Zz0.out; have zws0 := Zws0.out; have zv0 := Zv0.out; have zwx0 := Zwx0.out; have zvg := Zvg.out; have zqa0 := Zqa0.out; have zwy0 := Zwy0.out; have zu0 := Zu0.out; have zmx0 := Zmx0.out; have zqb0 := Zqb0.out; have zmg0 := Zmg0.out; have zd0 := Zd0.out; have zwt0 := Zwt0.out; have zvh := Zvh.out; omega)))) (by exact ((HW0.out.keep (fun b hS => HVvh.out.cell hS)).more (fun b hS => Nat.lt_of_lt_of_le hS HVvh.out.size)))).mono ?_
  rintro e qc0 ⟨rfl, hb⟩
  rw [eq_L_refl]
  have hbp : Below vh.heap.size vh qc0 := hb
  have Zqc0 : Hid (vh.heap.size + 0 ≤ qc0.heap.size) := by have h1 := hb.size; (try simp only [World.size_alloc, World.size_drew] at h1); show _ ≤ _; omega
  have HBqc0 := Lib.hid (below_trans HBvh.out hbp)
  have HVqc0 := Lib.hid (HVvh.out.trans (hbp.mono HVvh.out.size))
  have HXa0_ := Lib.hid (HXa0.out.on hbp); clear HXa0; have HXa0 := HXa0_; clear HXa0_
  have HXx0_ := Lib.hid (HXx0.out.on hbp); clear HXx0; have HXx0 := HXx0_; clear HXx0_
  have HSx0_ := Lib.hid (eTape.okeep HSx0.out (fun b hS => hbp.block b (by have q1 := hS.1; have q2 := hS.2; have zz0 := Zz0.out; have zws0 := Zws0.out; have zv0 := Zv0.out; have zwx0 := Zwx0.out; have zvg := Zvg.out; have zqa0 := Zqa0.out; have zwy0 := Zwy0.out; have zu0 := Zu0.out; have zmx0 := Zmx0.out; have zqb0 := Zqb0.out; have zmg0 := Zmg0.out; have zd0 := Zd0.out; have zwt0 := Zwt0.out; have zvh := Zvh.out; omega))); clear HSx0; have HSx0 := HSx0_; clear HSx0_
  have HSg0_ := Lib.hid (HSg0.out.keep (fun b hS => hbp.block b (by have q1 := hS.1; have q2 := hS.2; have zz0 := Zz0.out; have zws0 := Zws0.out; have zv0 := Zv0.out; have zwx0 := Zwx0.out; have zvg := Zvg.out; have zqa0 := Zqa0.out; have zwy0 := Zwy0.out; have zu0 := Zu0.out; have zmx0 := Zmx0.out; have zqb0 := Zqb0.out; have zmg0 := Zmg0.out; have zd0 := Zd0.out; have zwt0 := Zwt0.out; have zvh := Zvh.out; omega))); clear HSg0; have HSg0 := HSg0_; clear HSg0_
  have HSh0_ := Lib.hid (HSh0.out.keep (fun b hS => hbp.block b (by have q1 := hS.1; have q2 := hS.2; have zz0 := Zz0.out; have zws0 := Zws0.out; have zv0 := Zv0.out; have zwx0 := Zwx0.out; have zvg := Zvg.out; have zqa0 := Zqa0.out; have zwy0 := Zwy0.out; have zu0 := Zu0.out; have zmx0 := Zmx0.out; have zqb0 := Zqb0.out; have zmg0 := Zmg0.out; have zd0 := Zd0.out; have zwt0 := Zwt0.out; have zvh := Zvh.out; omega))); clear HSh0; have HSh0 := HSh0_; clear HSh0_
  clear hbp hb
  clear fa0_0 fa0_1 fx0_0 fx0_1
  have fa0_0 : qc0.cell? ⟨w.heap.size, 0, none⟩ = some (.slice Aa00 a0.1.length ca00) := HXa0.out.cell 0
  have fa0_1 : qc0.cell? ⟨w.heap.size, 1, none⟩ = some (.slice Aa01 a0.2.length ca01) := HXa0.out.cell 1
  have fx0_0 : qc0.cell? ⟨wx0.heap.size, 0, none⟩ = some (.slice Ax00 a0.1.length cx00) := HXx0.out.cell 0
  have fx0_1 : qc0.cell? ⟨wx0.heap.size, 1, none⟩ = some (.slice Ax01 a0.2.length cx01) := HXx0.out.cell 1
  go_wp2_with fail
  refine (held_L_c _ _ (tapeWord a0).1 _ _ (by exact (HSg0.out.sl.more (fun b hS => (by have q2 := hS.2; show _ < _; have zz0 := Zz0.out; have zws0 := Zws0.out; have zv0 := Zv0.out; have zwx0 := Zwx0.out; have zvg := Zvg.out; have zqa0 := Zqa0.out; have zwy0 := Zwy0.out; have zu0 := Zu0.out; have zmx0 := Zmx0.out; have zqb0 := Zqb0.out; have zmg0 := Zmg0.out; have zd0 := Zd0.out; have zwt0 := Zwt0.out; have zvh := Zvh.out; have zqc0 := Zqc0.out; omega)))) (by omega) (by have := HN0.out; omega)).mono ?_
  rintro e e0 ⟨rfl, hb⟩
  have hbp : Below qc0.heap.size qc0 e0 := hb
  have Ze0 : Hid (qc0.heap.size + 0 ≤ e0.heap.size) := by have h1 := hb.size; (try simp only [World.size_alloc, World.size_drew] at h1); show _ ≤ _; omega
  have HBe0 := Lib.hid (below_trans HBqc0.out hbp)
  have HVe0 := Lib.hid (HVqc0.out.trans (hbp.mono HVqc0.out.size))
  have HXa0_ := Lib.hid (HXa0.out.on hbp); clear HXa0; have HXa0 := HXa0_; clear HXa0_
  have HXx0_ := Lib.hid (HXx0.out.on hbp); clear HXx0; have HXx0 := HXx0_; clear HXx0_
  have HSx0_ := Lib.hid (eTape.okeep HSx0.out (fun b hS => hbp.block b (by have q1 := hS.1; have q2 := hS.2; have zz0 := Zz0.out; have zws0 := Zws0.out; have zv0 := Zv0.out; have zwx0 := Zwx0.out; have zvg := Zvg.out; have zqa0 := Zqa0.out; have zwy0 := Zwy0.out; have zu0 := Zu0.out; have zmx0 := Zmx0.out; have zqb0 := Zqb0.out; have zmg0 := Zmg0.out; have zd0 := Zd0.out; have zwt0 := Zwt0.out; have zvh := Zvh.out; have zqc0 := Zqc0.out; omega))); clear HSx0; have HSx0 := HSx0_; clear HSx0_
  have HSg0_ := Lib.hid (HSg0.out.keep (fun b hS => hbp.block b (by have q1 := hS.1; have q2 := hS.2; have zz0 := Zz0.out; have zws0 := Zws0.out; have zv0 := Zv0.out; have zwx0 := Zwx0.out; have zvg := Zvg.out; have zqa0 := Zqa0.out; have zwy0 := Zwy0.out; have zu0 := Zu0.out; have zmx0 := Zmx0.out; have zqb0 := Zqb0.out; have zmg0 := Zmg0.out; have zd0 := Zd0.out; have zwt0 := Zwt0.out; have zvh := Zvh.out; have zqc0 := Zqc0.out; omega))); clear HSg0; have HSg0 := HSg0_; clear HSg0_
  have HSh0_ := Lib.hid (HSh0.out.keep (fun b hS => hbp.block b (by have q1 := hS.1; have q2 := hS.2; have zz0 := Zz0.out; have zws0 := Zws0.out; have zv0 := Zv0.out; have zwx0 := Zwx0.out; have zvg := Zvg.out; have zqa0 := Zqa0.out; have zwy0 := Zwy0.out; have zu0 := Zu0.out; have zmx0 := Zmx0.out; have zqb0 := Zqb0.out; have zmg0 := Zmg0.out; have zd0 := Zd0.out; have zwt0 := Zwt0.out; have zvh := Zvh.out; have zqc0 := Zqc0.out; omega))); clear HSh0; have HSh0 := HSh0_; clear HSh0_
  clear hbp hb
  clear fa0_0 fa0_1 fx0_0 fx0_1
  have fa0_0 : e0.cell? ⟨w.heap.size, 0, none⟩ = some (.slice Aa00 a0.1.length ca00) := HXa0.out.cell 0
  have fa0_1 : e0.cell? ⟨w.heap.size, 1, none⟩ = some (.slice Aa01 a0.2.length ca01) := HXa0.out.cell 1
  have fx0_0 : e0.cell? ⟨wx0.heap.size, 0, none⟩ = some (.slice Ax00 a0.1.length cx00) := HXx0.out.cell 0
  have fx0_1 : e0.cell? ⟨wx0.heap.size, 1, none⟩ = some (.slice Ax01 a0.2.length cx01) := HXx0.out.cell 1
  go_wp2
  go_ret
  exact ⟨rfl, HBe0.out⟩

end Go.Proofs.Ytfbgiipmbmdliaa
