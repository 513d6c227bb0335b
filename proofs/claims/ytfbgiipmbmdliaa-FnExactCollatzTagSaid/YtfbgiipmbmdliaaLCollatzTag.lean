/- What the proof of FnExactCollatzTag needs: contracts of the functions that it reaches, each once. -/
import Derived.Test.YtfbgiipmbmdliaaProg
import Derived.Test.YtfbgiipmbmdliaaQMem
import Derived.WalkKit
import Derived.WalkSpells
import Derived.Below
import Derived.LoopTactic
import Derived.Outline
import Derived.Deep.QuietTactic
import Derived.BigQuiet
import Derived.Deep.LoopGhost
import Derived.Handy
import Derived.Lib.Hide
import Derived.Shelf.Abstract
import Derived.StillTailTactics
import Derived.OwnWalk
import Derived.Maps.AppendAt
import Derived.RegionTactic
import Derived.Deep.RegionHeld3
namespace Go.Proofs.Ytfbgiipmbmdliaa
open Go.RowKit

abbrev tTag : Type := Int × (List (List Int)) × (List Int)

abbrev eTag : Enc tTag := (ePr eInt (ePr (eSl (eSl eInt)) (eSl eInt)))

theorem shape_Tag {w : World} {S : Nat → Prop} {es : List Value} {x : tTag} (h : eTag.R w S es x) : ∃ A1 c1 A2 c2, es = [.int .i64 x.1, .slice A1 x.2.1.length c1, .slice A2 x.2.2.length c2] ∧ I64 x.1 ∧ Sl (eSl eInt) w S A1 c1 x.2.1 ∧ Sl eInt w S A2 c2 x.2.2 := by
  obtain ⟨_, _, rfl, ⟨rfl, h0⟩, ⟨_, _, rfl, ⟨A1, c1, rfl, h1⟩, ⟨A2, c2, rfl, h2⟩⟩⟩ := h
  exact ⟨A1, c1, A2, c2, rfl, h0, h1, h2⟩

/-- Equality of two lists, element by element. -/
def eqL {α : Type} (p : α → α → Bool) : List α → List α → Bool
  | [], [] => true
  | x :: xs, y :: ys => p x y && eqL p xs ys
  | _, _ => false

theorem eqL_refl {α : Type} {p : α → α → Bool} (hp : ∀ x, p x x = true) : ∀ xs : List α, eqL p xs xs = true
  | [] => rfl
  | x :: xs => by rw [eqL, hp, eqL_refl hp xs]; rfl

theorem eqL_len {α : Type} {p : α → α → Bool} : ∀ (xs ys : List α), xs.length ≠ ys.length → eqL p xs ys = false
  | [], [], h => absurd rfl h
  | [], _ :: _, _ => rfl
  | _ :: _, [], _ => rfl
  | x :: xs, y :: ys, h => by rw [eqL, eqL_len xs ys (by simpa using h)]; simp

theorem eqL_get {α : Type} {p : α → α → Bool} : ∀ (xs ys : List α) (k : Nat) (h1 : k < xs.length) (h2 : k < ys.length), p xs[k] ys[k] = false → eqL p xs ys = false
  | x :: xs, y :: ys, 0, _, _, h => by rw [eqL]; simp at h; rw [h]; rfl
  | x :: xs, y :: ys, k + 1, h1, h2, h => by rw [eqL, eqL_get xs ys k (by simpa using h1) (by simpa using h2) (by simpa using h)]; simp

theorem eqL_all {α : Type} {p : α → α → Bool} : ∀ (xs ys : List α), xs.length = ys.length → (∀ k (h1 : k < xs.length) (h2 : k < ys.length), p xs[k] ys[k] = true) → eqL p xs ys = true
  | [], [], _, _ => rfl
  | x :: xs, y :: ys, hl, h => by
    have e : p x y = true := h 0 (Nat.zero_lt_succ _) (Nat.zero_lt_succ _)
    have e' : eqL p xs ys = true := eqL_all xs ys (by simpa using hl) fun k h1 h2 => h (k + 1) (Nat.succ_lt_succ h1) (Nat.succ_lt_succ h2)
    rw [eqL, e, e']; rfl
  | [], _ :: _, hl, _ => by simp at hl
  | _ :: _, [], hl, _ => by simp at hl

theorem ret_int {k : IntKind} {a b : Int} (h : a = b) : Ending.returned (.int k a) = .returned (.int k b) := by rw [h]

theorem costL_take {α : Type} (f : α → Nat) (xs : List α) (k : Nat) (h : k < xs.length) : ((xs.take (k + 1)).map f).sum = ((xs.take k).map f).sum + f xs[k] := by
  rw [List.take_succ_eq_append_getElem h, List.map_append, List.sum_append]; simp only [List.map_cons, List.map_nil, List.sum_cons, List.sum_nil, Nat.add_zero]

theorem cost_le {α : Type} (f : α → Nat) (xs : List α) (k : Nat) : ((xs.take k).map f).sum ≤ (xs.map f).sum := by
  have h : (xs.map f).sum = ((xs.take k).map f).sum + ((xs.drop k).map f).sum := by
    rw [← List.sum_append, ← List.map_append, List.take_append_drop]
  omega

def eq_i (x y : Int) : Bool := x == y

def eq_L (x y : List Int) : Bool := eqL eq_i x y

def eq_LL (x y : List (List Int)) : Bool := eqL eq_L x y

theorem eq_i_refl (x : Int) : eq_i x x = true := by simp [eq_i]

theorem eq_L_refl (x : List Int) : eq_L x x = true := eqL_refl eq_i_refl x

theorem eq_LL_refl (x : List (List Int)) : eq_LL x x = true := eqL_refl eq_L_refl x

def eq_Tag (x y : tTag) : Bool := eq_i x.1 y.1 && eq_LL x.2.1 y.2.1 && eq_L x.2.2 y.2.2

theorem eq_Tag_refl (x : tTag) : eq_Tag x x = true := by unfold eq_Tag; simp [eq_LL_refl, eq_L_refl, eq_i_refl]

set_option maxRecDepth 100000 in
set_option maxHeartbeats 1000000 in
theorem eq_L_c (A A' : Option Addr) (c c' : Nat) (xs ys : List Int) (w : World) (h : Sl eInt w (Old w) A c xs) (h' : Sl eInt w (Old w) A' c' ys) :
    Calls Try.prog 44 #[.slice A xs.length c, .slice A' ys.length c'] w fun e w' => e = .returned (.bool (eq_L xs ys)) ∧ Below w.heap.size w w' := by
  have hlen := h.len
  have hlen' := h'.len
  unfold eq_L
  by_cases hne : xs.length = ys.length
  · have hne' : ((xs.length : Int) != (ys.length : Int)) = false := by simp [hne]
    have HE := Lib.hid hne; clear hne
    have H := Lib.hid h; clear h
    have H' := Lib.hid h'; clear h'
    go_enter Try.func44, Try.ntmps44
    go_wp2
    clear hne'
    go_loopw [5] (fun s5 wr => ∃ k : Nat, k ≤ xs.length ∧ s5 = .int .i64 k ∧ Hid (Below w.heap.size w wr) ∧ Hid (∀ j (h1 : j < xs.length) (h2 : j < ys.length), j < k → eq_i xs[j] ys[j] = true)) (fun s5 _ => xs.length - (intOf s5).toNat)
    case atStart => exact ⟨0, Nat.zero_le _, rfl, Below.refl _ _, fun j _ _ h => absurd h (Nat.not_lt_zero _)⟩
    case round =>
      obtain ⟨k, hk, rfl, HL, HN⟩ := hrel
      by_cases hlt : k < xs.length
      · have hltz : (k : Int) < (xs.length : Int) := by omega
        have hlt' : k < ys.length := by have := HE.out; omega
        have hltz' : (k : Int) < (ys.length : Int) := by omega
        obtain ⟨bp, offp, esp, rfl, hbp, hR, hc⟩ := H.out.at1 rfl hlt
        obtain ⟨rfl, gp⟩ := hR
        have dp0 : wr.cell? ⟨bp, offp + k, none⟩ = some (.int .i64 xs[k]) := (below_olds HL.out _ hbp).trans (hc _ rfl)
        clear hc gp
        try clear hR
        obtain ⟨bq, offq, esq, rfl, hbq, hR, hc⟩ := H'.out.at1 rfl hlt'
        obtain ⟨rfl, gq⟩ := hR
        have dq0 : wr.cell? ⟨bq, offq + k, none⟩ = some (.int .i64 ys[k]) := (below_olds HL.out _ hbq).trans (hc _ rfl)
        clear hc gq
        try clear hR
        have HQ0 : Hid (eq_i xs[k] ys[k] = false → eqL eq_i xs ys = false) := eqL_get xs ys k hlt hlt'
        have HQ1 : Hid (eq_i xs[k] ys[k] = true → ∀ j (h1 : j < xs.length) (h2 : j < ys.length), j < k + 1 → eq_i xs[j] ys[j] = true) := fun e j h1 h2 hj => by
          by_cases ej : j = k
          · subst ej; exact e
          · exact HN.out j h1 h2 (by omega)
        generalize xs[k] = x at dp0 HQ0 HQ1
        generalize ys[k] = y at dq0 HQ0 HQ1
        cases hq : eq_i x y
        · have hq' : (x != y) = true := by simp [eq_i] at hq; simp [hq]
          go_wp2_with fail
          go_quiet (fail)
          go_wp2
          go_ret
          exact ⟨by rw [HQ0.out hq]; rfl, below_drewN HL.out _⟩
        · have hq' : (x != y) = false := by simp [eq_i] at hq; simp [hq]
          go_wp2_with fail
          go_quiet (fail)
          go_wp2
          go_roundw
          case rel => exact ⟨k + 1, by omega, by go_num, below_drewN HL.out _, HQ1.out hq⟩
          case measure => simp [intOf]; omega
      · have hltz : ¬ (k : Int) < (xs.length : Int) := by omega
        obtain rfl : k = xs.length := by omega
        go_wp2
        go_ret
        exact ⟨by rw [eqL_all xs ys HE.out fun j h1 h2 => HN.out j h1 h2 h1]; rfl, HL.out⟩
  · have hne' : ((xs.length : Int) != (ys.length : Int)) = true := by simp; omega
    rw [eqL_len xs ys hne]
    clear h h' hne
    go_enter Try.func44, Try.ntmps44
    go_wp2
    go_ret
    exact ⟨rfl, Below.refl _ _⟩

set_option maxRecDepth 100000 in
set_option maxHeartbeats 1000000 in
theorem eq_LL_c (A A' : Option Addr) (c c' : Nat) (xs ys : List (List Int)) (w : World) (h : Sl (eSl eInt) w (Old w) A c xs) (h' : Sl (eSl eInt) w (Old w) A' c' ys) :
    Calls Try.prog 76 #[.slice A xs.length c, .slice A' ys.length c'] w fun e w' => e = .returned (.bool (eq_LL xs ys)) ∧ Below w.heap.size w w' := by
  have hlen := h.len
  have hlen' := h'.len
  unfold eq_LL
  by_cases hne : xs.length = ys.length
  · have hne' : ((xs.length : Int) != (ys.length : Int)) = false := by simp [hne]
    have HE := Lib.hid hne; clear hne
    have H := Lib.hid h; clear h
    have H' := Lib.hid h'; clear h'
    go_enter Try.func76, Try.ntmps76
    go_wp2
    clear hne'
    go_loopw [5] (fun s5 wr => ∃ k : Nat, k ≤ xs.length ∧ s5 = .int .i64 k ∧ Hid (Below w.heap.size w wr) ∧ Hid (∀ j (h1 : j < xs.length) (h2 : j < ys.length), j < k → eq_L xs[j] ys[j] = true)) (fun s5 _ => xs.length - (intOf s5).toNat)
    case atStart => exact ⟨0, Nat.zero_le _, rfl, Below.refl _ _, fun j _ _ h => absurd h (Nat.not_lt_zero _)⟩
    case round =>
      obtain ⟨k, hk, rfl, HL, HN⟩ := hrel
      by_cases hlt : k < xs.length
      · have hltz : (k : Int) < (xs.length : Int) := by omega
        have hlt' : k < ys.length := by have := HE.out; omega
        have hltz' : (k : Int) < (ys.length : Int) := by omega
        obtain ⟨bp, offp, esp, rfl, hbp, hR, hc⟩ := H.out.at1 rfl hlt
        obtain ⟨Ap, cp, rfl, gp⟩ := hR
        have dp0 : wr.cell? ⟨bp, offp + k, none⟩ = some (.slice Ap xs[k].length cp) := (below_olds HL.out _ hbp).trans (hc _ rfl)
        have HRp := Lib.hid (gp.on HL.out)
        clear hc gp
        try clear hR
        obtain ⟨bq, offq, esq, rfl, hbq, hR, hc⟩ := H'.out.at1 rfl hlt'
        obtain ⟨Aq, cq, rfl, gq⟩ := hR
        have dq0 : wr.cell? ⟨bq, offq + k, none⟩ = some (.slice Aq ys[k].length cq) := (below_olds HL.out _ hbq).trans (hc _ rfl)
        have HRq := Lib.hid (gq.on HL.out)
        clear hc gq
        try clear hR
        have HQ0 : Hid (eq_L xs[k] ys[k] = false → eqL eq_L xs ys = false) := eqL_get xs ys k hlt hlt'
        have HQ1 : Hid (eq_L xs[k] ys[k] = true → ∀ j (h1 : j < xs.length) (h2 : j < ys.length), j < k + 1 → eq_L xs[j] ys[j] = true) := fun e j h1 h2 hj => by
          by_cases ej : j = k
          · subst ej; exact e
          · exact HN.out j h1 h2 (by omega)
        generalize xs[k] = x at dp0 HRp HQ0 HQ1
        generalize ys[k] = y at dq0 HRq HQ0 HQ1
        go_wp2_with fail
        go_still_tail 8, (by kernel_rfl)
        cases hq : eq_L x y
        · go_wp2_with fail
          refine (eq_L_c _ _ _ _ x y _ (HRp.out.on (Below.refl _ _).drew) (HRq.out.on (Below.refl _ _).drew)).mono ?_
          rintro e w2 ⟨rfl, hb2⟩
          rw [hq]
          go_wp2
          go_ret
          exact ⟨by rw [HQ0.out hq]; rfl, HL.out.drew.trans (hb2.mono HL.out.size)⟩
        · go_wp2_with fail
          refine (eq_L_c _ _ _ _ x y _ (HRp.out.on (Below.refl _ _).drew) (HRq.out.on (Below.refl _ _).drew)).mono ?_
          rintro e w2 ⟨rfl, hb2⟩
          rw [hq]
          go_wp2
          go_roundw
          case rel => exact ⟨k + 1, by omega, by go_num, HL.out.drew.trans (hb2.mono HL.out.size), HQ1.out hq⟩
          case measure => simp [intOf]; omega
      · have hltz : ¬ (k : Int) < (xs.length : Int) := by omega
        obtain rfl : k = xs.length := by omega
        go_wp2
        go_ret
        exact ⟨by rw [eqL_all xs ys HE.out fun j h1 h2 => HN.out j h1 h2 h1]; rfl, HL.out⟩
  · have hne' : ((xs.length : Int) != (ys.length : Int)) = true := by simp; omega
    rw [eqL_len xs ys hne]
    clear h h' hne
    go_enter Try.func76, Try.ntmps76
    go_wp2
    go_ret
    exact ⟨rfl, Below.refl _ _⟩

set_option maxHeartbeats 1000000 in
theorem eq_Tag_c (es es' : List Value) (x y : tTag) (w : World) (h : eTag.R w (Old w) es x) (h' : eTag.R w (Old w) es' y) :
    Calls Try.prog 17 #[.agg es.toArray, .agg es'.toArray] w fun e w' => e = .returned (.bool (eq_Tag x y)) ∧ Below w.heap.size w w' := by
  obtain ⟨Ax1, cx1, Ax2, cx2, rfl, gx0, gx1, gx2⟩ := shape_Tag h
  obtain ⟨Ay1, cy1, Ay2, cy2, rfl, gy0, gy1, gy2⟩ := shape_Tag h'
  have HB0 := Lib.hid (((Below.refl w.heap.size w).alloc (Nat.le_refl _) (.cells #[.int .i64 x.1, .slice Ax1 x.2.1.length cx1, .slice Ax2 x.2.2.length cx2] 25)).alloc (by simp) (.cells #[.int .i64 y.1, .slice Ay1 y.2.1.length cy1, .slice Ay2 y.2.2.length cy2] 25))
  have HX1 := Lib.hid (gx1.on HB0.out); clear gx1
  have HY1 := Lib.hid (gy1.on HB0.out); clear gy1
  have HX2 := Lib.hid (gx2.on HB0.out); clear gx2
  have HY2 := Lib.hid (gy2.on HB0.out); clear gy2
  clear gx0 gy0
  cases t0 : eq_i x.1 y.1
  · rw [show eq_Tag x y = false from by unfold eq_Tag; simp [t0]]
    have t0' : (x.1 != y.1) = true := by simp only [eq_i] at t0; simp [bne, t0]
    go_enter Try.func17, Try.ntmps17
    go_wp2
    go_ret
    exact ⟨rfl, HB0.out⟩
  have t0' : (x.1 != y.1) = false := by simp only [eq_i] at t0; simp [bne, t0]
  cases t1 : eq_LL x.2.1 y.2.1
  · rw [show eq_Tag x y = false from by unfold eq_Tag; simp [t0, t1]]
    go_enter Try.func17, Try.ntmps17
    go_wp2_with fail
    refine (eq_LL_c _ _ _ _ x.2.1 y.2.1 _ HX1.out HY1.out).mono ?_
    rintro e w1 ⟨rfl, hb⟩
    rw [t1]
    have HB1 := Lib.hid hb
    clear hb
    obtain ⟨hc, hf⟩ := bcell HB1.out
    go_wp2
    go_ret
    exact ⟨rfl, below_trans HB0.out HB1.out⟩
  cases t2 : eq_L x.2.2 y.2.2
  · rw [show eq_Tag x y = false from by unfold eq_Tag; simp [t0, t1, t2]]
    go_enter Try.func17, Try.ntmps17
    go_wp2_with fail
    refine (eq_LL_c _ _ _ _ x.2.1 y.2.1 _ HX1.out HY1.out).mono ?_
    rintro e w1 ⟨rfl, hb⟩
    rw [t1]
    have HB1 := Lib.hid hb
    clear hb
    obtain ⟨hc, hf⟩ := bcell HB1.out
    go_wp2_with fail
    refine (eq_L_c _ _ _ _ x.2.2 y.2.2 _ (HX2.out.on HB1.out) (HY2.out.on HB1.out)).mono ?_
    rintro e w2 ⟨rfl, hb⟩
    rw [t2]
    have HB2 := Lib.hid (below_trans HB1.out hb)
    clear hb
    obtain ⟨hc, hf⟩ := bcell HB2.out
    go_wp2
    go_ret
    exact ⟨rfl, below_trans HB0.out HB2.out⟩
  rw [show eq_Tag x y = true from by unfold eq_Tag; simp [t0, t1, t2]]
  go_enter Try.func17, Try.ntmps17
  go_wp2_with fail
  refine (eq_LL_c _ _ _ _ x.2.1 y.2.1 _ HX1.out HY1.out).mono ?_
  rintro e w1 ⟨rfl, hb⟩
  rw [t1]
  have HB1 := Lib.hid hb
  clear hb
  obtain ⟨hc, hf⟩ := bcell HB1.out
  go_wp2_with fail
  refine (eq_L_c _ _ _ _ x.2.2 y.2.2 _ (HX2.out.on HB1.out) (HY2.out.on HB1.out)).mono ?_
  rintro e w2 ⟨rfl, hb⟩
  rw [t2]
  have HB2 := Lib.hid (below_trans HB1.out hb)
  clear hb
  obtain ⟨hc, hf⟩ := bcell HB2.out
  go_wp2
  go_ret
  exact ⟨rfl, below_trans HB0.out HB2.out⟩

theorem i64_small {x : Int} (h0 : 0 ≤ x) (h1 : x ≤ 1000000000000) : I64 x := ⟨by omega, by omega⟩

/-- How many numbers a list of elements takes. -/
def cntL {α : Type} (c : α → Nat) (xs : List α) : Nat := (xs.map c).sum

/-- The elements marked one after another from k on. -/
def mkL {α : Type} (f : α → Int → α) (c : α → Nat) : List α → Int → List α
  | [], _ => []
  | x :: xs, k => f x k :: mkL f c xs (k + c x)

theorem mkL_len {α : Type} (f : α → Int → α) (c : α → Nat) : ∀ (xs : List α) (k : Int), (mkL f c xs k).length = xs.length
  | [], _ => rfl
  | x :: xs, k => by rw [mkL, List.length_cons, mkL_len f c xs, List.length_cons]

theorem mkL_append {α : Type} (f : α → Int → α) (c : α → Nat) : ∀ (xs ys : List α) (k : Int), mkL f c (xs ++ ys) k = mkL f c xs k ++ mkL f c ys (k + cntL c xs)
  | [], ys, k => by simp [mkL, cntL]
  | x :: xs, ys, k => by
    rw [List.cons_append, mkL, mkL, mkL_append f c xs ys, List.cons_append]
    have : k + (c x : Int) + (cntL c xs : Int) = k + (cntL c (x :: xs) : Int) := by unfold cntL; simp only [List.map_cons, List.sum_cons]; omega
    rw [this]

theorem cntL_take {α : Type} (c : α → Nat) (xs : List α) (i : Nat) (h : i < xs.length) : cntL c (xs.take (i + 1)) = cntL c (xs.take i) + c xs[i] := costL_take c xs i h

theorem cntL_le {α : Type} (c : α → Nat) (xs : List α) (i : Nat) : cntL c (xs.take i) ≤ cntL c xs := cost_le c xs i

/-- What a marking loop has made after i rounds. -/
def mkTo {α : Type} (f : α → Int → α) (c : α → Nat) (xs : List α) (k : Int) (i : Nat) : List α := mkL f c (xs.take i) k ++ xs.drop i

theorem mkTo_zero {α : Type} (f : α → Int → α) (c : α → Nat) (xs : List α) (k : Int) : mkTo f c xs k 0 = xs := by simp [mkTo, mkL]

theorem mkTo_len {α : Type} (f : α → Int → α) (c : α → Nat) (xs : List α) (k : Int) (i : Nat) : (mkTo f c xs k i).length = xs.length := by
  unfold mkTo; rw [List.length_append, mkL_len, List.length_take, List.length_drop]; omega

theorem mkTo_end {α : Type} (f : α → Int → α) (c : α → Nat) (xs : List α) (k : Int) : mkTo f c xs k xs.length = mkL f c xs k := by simp [mkTo]

theorem mkTo_get {α : Type} (f : α → Int → α) (c : α → Nat) (xs : List α) (k : Int) (i : Nat) (h : i < xs.length) : (mkTo f c xs k i)[i]? = some xs[i] := by
  unfold mkTo
  rw [List.getElem?_append_right (by rw [mkL_len, List.length_take]; omega), mkL_len, List.length_take, List.getElem?_drop, show i + (i - min i xs.length) = i from by omega, List.getElem?_eq_getElem h]

theorem mkTo_step {α : Type} (f : α → Int → α) (c : α → Nat) (xs : List α) (k : Int) (i : Nat) (h : i < xs.length) : (mkTo f c xs k i).set i (f xs[i] (k + cntL c (xs.take i))) = mkTo f c xs k (i + 1) := by
  have hl : (mkL f c (xs.take i) k).length = i := by rw [mkL_len, List.length_take]; omega
  unfold mkTo
  rw [List.take_succ_eq_append_getElem h, mkL_append, List.drop_eq_getElem_cons h, List.set_append_right _ _ (by omega), hl, Nat.sub_self, List.set_cons_zero]
  simp [mkL]

theorem mkL_get {α : Type} (f : α → Int → α) (c : α → Nat) (xs : List α) (k : Int) (i : Nat) (h : i < xs.length) : (mkL f c xs k)[i]? = some (f xs[i] (k + cntL c (xs.take i))) := by
  have h1 : mkL f c xs k = mkL f c (xs.take i) k ++ mkL f c (xs.drop i) (k + cntL c (xs.take i)) := by rw [← mkL_append, List.take_append_drop]
  have hl : (mkL f c (xs.take i) k).length = i := by rw [mkL_len, List.length_take]; omega
  rw [h1, List.getElem?_append_right (by omega), hl, Nat.sub_self, List.drop_eq_getElem_cons h]
  rfl

def mk_i (_ : Int) (k : Int) : Int := k

def ct_i (_ : Int) : Nat := 1

def mk_L (xs : List Int) (k : Int) : List Int := mkL mk_i ct_i xs k

def ct_L (xs : List Int) : Nat := cntL ct_i xs

def mk_LL (xs : List (List Int)) (k : Int) : List (List Int) := mkL mk_L ct_L xs k

def ct_LL (xs : List (List Int)) : Nat := cntL ct_L xs

/-- By value: what its slices lead to is marked. -/
def mv_Tag (x : tTag) (k : Int) : tTag := (x.1, mk_LL x.2.1 (k), mk_L x.2.2 (k + ct_LL x.2.1))

def cv_Tag (x : tTag) : Nat := ct_LL x.2.1 + ct_L x.2.2

set_option maxHeartbeats 1000000 in
theorem mark_L_c (A : Option Addr) (c : Nat) (xs : List Int) (k : Int) (w : World) (S : Nat → Prop) (h : So eInt w S A c xs) (_hS : ∀ b, S b → b < w.heap.size) (hk : 0 ≤ k) (hk' : k + (ct_L xs : Int) ≤ 1000000000000) :
    Calls Try.prog 47 #[.slice A xs.length c, .int .i64 k] w fun e w' => e = .returned (.int .i64 (k + (ct_L xs : Int))) ∧ So eInt w' S A c (mk_L xs k) ∧ Chg S w w' := by
  have hlen := h.sl.len
  clear _hS
  have H := Lib.hid h; clear h
  have HC : Hid (ct_L xs = cntL ct_i xs) := rfl
  go_enter Try.func47, Try.ntmps47
  go_wp2
  go_loopw [1, 5] (fun s1 s5 wr => ∃ (i : Nat) (q : Int), i ≤ xs.length ∧ s5 = .int .i64 i ∧ s1 = .int .i64 q ∧ 0 ≤ q ∧ q ≤ 1000000000000 ∧ Hid (q = k + (cntL ct_i (xs.take i) : Int)) ∧ Hid (So eInt wr S A c (mkTo mk_i ct_i xs k i)) ∧ Hid (Chg S w wr)) (fun _ s5 _ => xs.length - (intOf s5).toNat)
  case atStart => exact ⟨0, k, Nat.zero_le _, rfl, rfl, hk, by omega, by show _ = _; simp [cntL], by show So _ _ _ _ _ _; rw [mkTo_zero]; exact H.out, Chg.refl _ _⟩
  case round =>
    obtain ⟨i, q, hi, rfl, rfl, hq0, hq1, HQ, HS, HG⟩ := hrel
    by_cases hlt : i < xs.length
    · have hltz : (i : Int) < (xs.length : Int) := by omega
      have HQ2 : Hid (q + 1 ≤ 1000000000000 ∧ q + 1 = k + (cntL ct_i (xs.take (i + 1)) : Int)) := by
        have h1 := cntL_take ct_i xs i hlt
        have h2 := cntL_le ct_i xs (i + 1)
        have h3 : ct_i xs[i] = 1 := rfl
        have h4 := HQ.out
        have h5 := HC.out
        refine ⟨?_, ?_⟩ <;> omega
      have hq2 := HQ2.out.1
      obtain ⟨b, off, t, cur, T, es, rfl, hSb, hB, hT, hO, hcells, hre⟩ := HS.out.at (k := i) (by rw [mkTo_len]; exact hlt)
      have hel := eInt.len (eInt.read hO)
      obtain ⟨v0, hv0⟩ : ∃ v, cur[off + i]? = some v := ⟨_, by have h := hcells 0 _ (List.getElem?_eq_getElem (by rw [hel]; decide)); rw [show off + i * eInt.size + 0 = off + i from by show off + i * 1 + 0 = _; omega] at h; exact h⟩
      have e0 : wr.cell? ⟨b, off + i, none⟩ = some v0 := (hB.cell _).trans hv0
      have f0 := hB.frozen (off + i)
      clear hv0
      have HB := Lib.hid hB; clear hB hcells hel
      have HRE : Hid (So eInt (wr.setCell ⟨b, off + i, none⟩ (.int .i64 (q))) S (some ⟨b, off, none⟩) c (mkTo mk_i ct_i xs k (i + 1))) := by
        show So _ _ _ _ _ _
        rw [← mkTo_step mk_i ct_i xs k i hlt, ← HQ.out]
        refine hre _ [.int .i64 (q)] _ (oI (i64_small (by omega) (by omega))) ?_ (fun m hm hne _ => ?_)
        · rw [show off + i * eInt.size = off + i from by show off + i * 1 = _; omega]; exact HB.out.set _ _
        · rw [Below.heap_setCell _ _ _ _ (by exact hne)]
      clear hre hO hT
      have HG2 : Hid (Chg S w (wr.setCell ⟨b, off + i, none⟩ (.int .i64 (q)))) := (HG.out.set (by exact hSb) _)
      have HSB := Lib.hid hSb; clear hSb
      go_wp2
      go_roundw
      case rel => exact ⟨i + 1, q + 1, by omega, by go_num, rfl, by omega, by omega, by show _ = _; have := HQ2.out.2; omega, HRE.out, HG2.out⟩
      case measure => simp [intOf]; omega
    · have hltz : ¬ (i : Int) < (xs.length : Int) := by omega
      obtain rfl : i = xs.length := by omega
      have h2 := HQ.out
      rw [List.take_length] at h2
      have h3 := HS.out
      rw [mkTo_end] at h3
      have H2 := Lib.hid h2; have H3 := Lib.hid h3; clear h2 h3
      go_wp2
      go_ret
      exact ⟨ret_int (by rw [H2.out, HC.out]), H3.out, HG.out⟩

set_option maxHeartbeats 1000000 in
theorem held_L_c (A : Option Addr) (c : Nat) (xs : List Int) (k : Int) (w : World) (h : Sl eInt w (Old w) A c (mk_L xs k)) (hk : 0 ≤ k) (hk' : k + (ct_L xs : Int) ≤ 1000000000000) :
    Calls Try.prog 48 #[.slice A xs.length c, .int .i64 k] w fun e w' => e = .returned (.int .i64 (k + (ct_L xs : Int))) ∧ Below w.heap.size w w' := by
  have hlen := h.len
  have hL : (mk_L xs k).length = xs.length := mkL_len _ _ _ _
  rw [hL] at hlen
  have HLen := Lib.hid hL; clear hL
  have H := Lib.hid h; clear h
  have HC : Hid (ct_L xs = cntL ct_i xs) := rfl
  go_enter Try.func48, Try.ntmps48
  go_wp2
  go_loop [1, 5] (fun s1 s5 => ∃ (i : Nat) (q : Int), i ≤ xs.length ∧ s5 = .int .i64 i ∧ s1 = .int .i64 q ∧ 0 ≤ q ∧ q ≤ 1000000000000 ∧ Hid (q = k + (cntL ct_i (xs.take i) : Int))) (fun _ s5 => xs.length - (intOf s5).toNat)
  case atStart => exact ⟨0, k, Nat.zero_le _, rfl, rfl, hk, by omega, by show _ = _; simp [cntL]⟩
  case round =>
    obtain ⟨i, q, hi, rfl, rfl, hq0, hq1, HQ⟩ := hrel
    by_cases hlt : i < xs.length
    · have hltz : (i : Int) < (xs.length : Int) := by omega
      have HQ2 : Hid (q + 1 ≤ 1000000000000 ∧ q + 1 = k + (cntL ct_i (xs.take (i + 1)) : Int)) := by
        have h1 := cntL_take ct_i xs i hlt
        have h2 := cntL_le ct_i xs (i + 1)
        have h3 : ct_i xs[i] = 1 := rfl
        have h4 := HQ.out
        have h5 := HC.out
        refine ⟨?_, ?_⟩ <;> omega
      have hq2 := HQ2.out.1
      have hlt2 : i < (mk_L xs k).length := by rw [HLen.out]; exact hlt
      have HE : Hid ((mk_L xs k)[i] = mk_i xs[i] q) := by
        have h1 := mkL_get mk_i ct_i xs k i hlt
        rw [← HQ.out] at h1
        exact Option.some.inj ((List.getElem?_eq_getElem hlt2).symm.trans h1)
      obtain ⟨b, off, es, rfl, hb, hR, hc⟩ := H.out.at1 rfl hlt2
      rw [HE.out] at hR
      obtain ⟨rfl, gq⟩ := hR
      have d0 : w.cell? ⟨b, off + i, none⟩ = some (.int .i64 q) := hc _ rfl
      have t0 : (q != q) = false := by simp
      clear hc gq
      try clear hR
      go_wp2
      go_round
      case rel => exact ⟨i + 1, q + 1, by omega, by go_num, rfl, by omega, by omega, by show _ = _; have := HQ2.out.2; omega⟩
      case measure => simp [intOf]; omega
    · have hltz : ¬ (i : Int) < (xs.length : Int) := by omega
      obtain rfl : i = xs.length := by omega
      have h2 := HQ.out
      rw [List.take_length] at h2
      have H2 := Lib.hid h2; clear h2
      go_wp2
      go_ret
      exact ⟨ret_int (by rw [H2.out, HC.out]), Below.refl _ _⟩

set_option maxHeartbeats 1000000 in
theorem mark_LL_c (A : Option Addr) (c : Nat) (xs : List (List Int)) (k : Int) (w : World) (S : Nat → Prop) (h : So (eSl eInt) w S A c xs) (hS : ∀ b, S b → b < w.heap.size) (hk : 0 ≤ k) (hk' : k + (ct_LL xs : Int) ≤ 1000000000000) :
    Calls Try.prog 77 #[.slice A xs.length c, .int .i64 k] w fun e w' => e = .returned (.int .i64 (k + (ct_LL xs : Int))) ∧ So (eSl eInt) w' S A c (mk_LL xs k) ∧ Chg S w w' := by
  have hlen := h.sl.len
  have H := Lib.hid h; clear h
  have HS0 := Lib.hid hS; clear hS
  have HC : Hid (ct_LL xs = cntL ct_L xs) := rfl
  go_enter Try.func77, Try.ntmps77
  go_wp2
  go_loopw [1, 5] (fun s1 s5 wr => ∃ (i : Nat) (q : Int), i ≤ xs.length ∧ s5 = .int .i64 i ∧ s1 = .int .i64 q ∧ 0 ≤ q ∧ q ≤ 1000000000000 ∧ Hid (q = k + (cntL ct_L (xs.take i) : Int)) ∧ Hid (So (eSl eInt) wr S A c (mkTo mk_L ct_L xs k i)) ∧ Hid (Chg S w wr)) (fun _ s5 _ => xs.length - (intOf s5).toNat)
  case atStart => exact ⟨0, k, Nat.zero_le _, rfl, rfl, hk, by omega, by show _ = _; simp [cntL], by show So _ _ _ _ _ _; rw [mkTo_zero]; exact H.out, Chg.refl _ _⟩
  case round =>
    obtain ⟨i, q, hi, rfl, rfl, hq0, hq1, HQ, HS, HG⟩ := hrel
    by_cases hlt : i < xs.length
    · have hltz : (i : Int) < (xs.length : Int) := by omega
      have HQ2 : Hid (q + (ct_L xs[i] : Int) ≤ 1000000000000 ∧ q + (ct_L xs[i] : Int) = k + (cntL ct_L (xs.take (i + 1)) : Int)) := by
        have h1 := cntL_take ct_L xs i hlt
        have h2 := cntL_le ct_L xs (i + 1)
        have h4 := HQ.out
        have h5 := HC.out
        refine ⟨?_, ?_⟩ <;> omega
      have hq2 := HQ2.out.1
      have HSW : Hid (∀ b, S b → b < wr.heap.size) := fun b hb => Nat.lt_of_lt_of_le (HS0.out b hb) HG.out.size
      have hlt2 : i < (mkTo mk_L ct_L xs k i).length := by rw [mkTo_len]; exact hlt
      obtain ⟨b, off, t, cur, T, es, rfl, hSb, hB, hT, hO, hcells, hre⟩ := HS.out.at2 hlt2
      have hX : (mkTo mk_L ct_L xs k i)[i] = xs[i] := Option.some.inj ((List.getElem?_eq_getElem hlt2).symm.trans (mkTo_get mk_L ct_L xs k i hlt))
      rw [hX] at hO
      obtain ⟨A', c', rfl, hso⟩ := hO
      have d0 : wr.cell? ⟨b, off + i, none⟩ = some (.slice A' xs[i].length c') := (hB.cell _).trans (by have h1 := hcells 0 _ rfl; rw [show off + i * (eSl eInt).size + 0 = off + i from by show off + i * 1 + 0 = _; omega] at h1; exact h1)
      have HM := Lib.hid (mark_L_c A' c' xs[i] q wr T hso (fun b hb => HSW.out b (hT b hb).1) hq0 hq2)
      have HRE : Hid (∀ w1, So eInt w1 T A' c' (mk_L xs[i] q) → Chg T wr w1 → So (eSl eInt) w1 S (some ⟨b, off, none⟩) c (mkTo mk_L ct_L xs k (i + 1))) := fun w1 h1 h2 => by
        rw [← mkTo_step mk_L ct_L xs k i hlt, ← HQ.out]
        refine hre w1 cur [.slice A' xs[i].length c'] _ ⟨A', c', by rw [show (mk_L xs[i] q).length = xs[i].length from mkL_len _ _ _ _], h1⟩ ((h2.block b (HSW.out b hSb) (fun hb => (hT b hb).2 rfl)).trans hB) hcells (fun _ _ => rfl) (fun m hm _ hnT => h2.block m (HSW.out m hm) hnT)
      have HTS : Hid (∀ b, T b → S b) := fun b hb => (hT b hb).1
      clear hre hcells hT hX hso hSb hB
      generalize xs[i] = y at d0 HM HRE HQ2 hq2
      go_wp2_with fail
      refine HM.out.mono ?_
      rintro e w1 ⟨rfl, hs1, hc1⟩
      have HS1 := Lib.hid (HRE.out w1 hs1 hc1)
      have HG1 : Hid (Chg S w w1) := HG.out.trans (hc1.mono HTS.out)
      clear hs1 hc1
      go_wp2
      go_roundw
      case rel => exact ⟨i + 1, _, by omega, by go_num, rfl, by omega, by omega, HQ2.out.2, HS1.out, HG1.out⟩
      case measure => simp [intOf]; omega
    · have hltz : ¬ (i : Int) < (xs.length : Int) := by omega
      obtain rfl : i = xs.length := by omega
      have h2 := HQ.out
      rw [List.take_length] at h2
      have h3 := HS.out
      rw [mkTo_end] at h3
      have H2 := Lib.hid h2; have H3 := Lib.hid h3; clear h2 h3
      go_wp2
      go_ret
      exact ⟨ret_int (by rw [H2.out, HC.out]), H3.out, HG.out⟩

set_option maxHeartbeats 1000000 in
theorem held_LL_c (A : Option Addr) (c : Nat) (xs : List (List Int)) (k : Int) (w : World) (h : Sl (eSl eInt) w (Old w) A c (mk_LL xs k)) (hk : 0 ≤ k) (hk' : k + (ct_LL xs : Int) ≤ 1000000000000) :
    Calls Try.prog 78 #[.slice A xs.length c, .int .i64 k] w fun e w' => e = .returned (.int .i64 (k + (ct_LL xs : Int))) ∧ Below w.heap.size w w' := by
  have hlen := h.len
  have hL : (mk_LL xs k).length = xs.length := mkL_len _ _ _ _
  rw [hL] at hlen
  have HLen := Lib.hid hL; clear hL
  have H := Lib.hid h; clear h
  have HC : Hid (ct_LL xs = cntL ct_L xs) := rfl
  go_enter Try.func78, Try.ntmps78
  go_wp2
  go_loopw [1, 5] (fun s1 s5 wr => ∃ (i : Nat) (q : Int), i ≤ xs.length ∧ s5 = .int .i64 i ∧ s1 = .int .i64 q ∧ 0 ≤ q ∧ q ≤ 1000000000000 ∧ Hid (q = k + (cntL ct_L (xs.take i) : Int)) ∧ Hid (Below w.heap.size w wr)) (fun _ s5 _ => xs.length - (intOf s5).toNat)
  case atStart => exact ⟨0, k, Nat.zero_le _, rfl, rfl, hk, by omega, by show _ = _; simp [cntL], Below.refl _ _⟩
  case round =>
    obtain ⟨i, q, hi, rfl, rfl, hq0, hq1, HQ, BW⟩ := hrel
    by_cases hlt : i < xs.length
    · have hltz : (i : Int) < (xs.length : Int) := by omega
      have HQ2 : Hid (q + (ct_L xs[i] : Int) ≤ 1000000000000 ∧ q + (ct_L xs[i] : Int) = k + (cntL ct_L (xs.take (i + 1)) : Int)) := by
        have h1 := cntL_take ct_L xs i hlt
        have h2 := cntL_le ct_L xs (i + 1)
        have h4 := HQ.out
        have h5 := HC.out
        refine ⟨?_, ?_⟩ <;> omega
      have hq2 := HQ2.out.1
      have hlt2 : i < (mk_LL xs k).length := by rw [HLen.out]; exact hlt
      have HE : Hid ((mk_LL xs k)[i] = mk_L xs[i] q) := by
        have h1 := mkL_get mk_L ct_L xs k i hlt
        rw [← HQ.out] at h1
        exact Option.some.inj ((List.getElem?_eq_getElem hlt2).symm.trans h1)
      obtain ⟨b, off, es, rfl, hb, hR, hc⟩ := H.out.at1 rfl hlt2
      rw [HE.out] at hR
      obtain ⟨A', c', rfl, g⟩ := hR
      have d0 : wr.cell? ⟨b, off + i, none⟩ = some (.slice A' xs[i].length c') := (below_olds BW.out _ hb).trans ((hc _ rfl).trans (by rw [show (mk_L xs[i] q).length = xs[i].length from mkL_len _ _ _ _]))
      have HH := Lib.hid (held_L_c A' c' xs[i] q wr (g.on BW.out) hq0 hq2)
      clear hc g
      generalize xs[i] = y at d0 HH HQ2 hq2
      have hneg : ¬ q + (ct_L y : Int) < 0 := by omega
      go_wp2_with fail
      refine HH.out.mono ?_
      rintro e w1 ⟨rfl, hb1⟩
      have HB1 := Lib.hid (below_trans BW.out hb1); clear hb1
      go_wp2
      go_roundw
      case rel => exact ⟨i + 1, _, by omega, by go_num, rfl, by omega, by omega, HQ2.out.2, HB1.out⟩
      case measure => simp [intOf]; omega
    · have hltz : ¬ (i : Int) < (xs.length : Int) := by omega
      obtain rfl : i = xs.length := by omega
      have h2 := HQ.out
      rw [List.take_length] at h2
      have H2 := Lib.hid h2; clear h2
      go_wp2
      go_ret
      exact ⟨ret_int (by rw [H2.out, HC.out]), BW.out⟩

set_option maxRecDepth 100000 in
set_option maxHeartbeats 1000000 in
theorem mark_Tag_c (es : List Value) (x : tTag) (k : Int) (w : World) (S : Nat → Prop) (h : eTag.O w S es x) (hS : ∀ b, S b → b < w.heap.size) (hk : 0 ≤ k) (hk' : k + (cv_Tag x : Int) ≤ 1000000000000) :
    Calls Try.prog 18 #[.agg es.toArray, .int .i64 k] w fun e w' => e = .returned (.int .i64 (k + (cv_Tag x : Int))) ∧ eTag.O w' S es (mv_Tag x k) ∧ Chg S w w' := by
  obtain ⟨_, _, S0, R0, rfl, p0, r0, ⟨rfl, g0⟩, ⟨_, _, S1, R1, rfl, p1, r1, ⟨A1, c1, rfl, o1⟩, ⟨A2, c2, rfl, o2⟩⟩⟩ := h
  have HB0 : Hid (Below w.heap.size w (w.alloc (.cells #[.int .i64 x.1, .slice A1 x.2.1.length c1, .slice A2 x.2.2.length c2] 25))) := (Below.refl _ _).alloc (Nat.le_refl _) _
  have HS0 := Lib.hid hS; clear hS
  have SUB1 : Hid (∀ b, S1 b → S b) := fun b hb => (r0 b (p1 b hb).1)
  have DIS1_2 : Hid (∀ b, S1 b → R1 b → False) := fun b hb hb2 => (p1 b hb).2 hb2
  have SUB2 : Hid (∀ b, R1 b → S b) := fun b hb => (r0 b (r1 b hb))
  have O1 := Lib.hid (o1.keep (w' := w.alloc (.cells #[.int .i64 x.1, .slice A1 x.2.1.length c1, .slice A2 x.2.2.length c2] 25)) fun b hb => Below.heap_alloc _ _ _ (HS0.out b (SUB1.out b hb))); clear o1
  have ct1 := Lib.hid (show (0 : Int) ≤ (ct_LL x.2.1 : Int) from by omega)
  have O2 := Lib.hid (o2.keep (w' := w.alloc (.cells #[.int .i64 x.1, .slice A1 x.2.1.length c1, .slice A2 x.2.2.length c2] 25)) fun b hb => Below.heap_alloc _ _ _ (HS0.out b (SUB2.out b hb))); clear o2
  have ct2 := Lib.hid (show (0 : Int) ≤ (ct_L x.2.2 : Int) from by omega)
  have HCT : Hid (cv_Tag x = ct_LL x.2.1 + ct_L x.2.2) := rfl
  go_enter Try.func18, Try.ntmps18
  go_wp2_with fail
  refine (mark_LL_c _ _ x.2.1 _ _ S1 O1.out (fun b hb => Nat.lt_of_lt_of_le (HS0.out b (SUB1.out b hb)) HB0.out.size) (by omega) (by have := HCT.out; omega)).mono ?_
  rintro e w1 ⟨rfl, hs, hc⟩
  have HX : Hid (Blk w1 w.heap.size 25 #[.int .i64 x.1, .slice A1 x.2.1.length c1, .slice A2 x.2.2.length c2]) := (hc.block w.heap.size (by simp) (fun hb => Nat.lt_irrefl _ (HS0.out _ (SUB1.out _ hb)))).trans (Blk.new w 25 #[.int .i64 x.1, .slice A1 x.2.1.length c1, .slice A2 x.2.2.length c2])
  have O2_ := Lib.hid (O2.out.keep fun b hb => hc.block b (Nat.lt_of_lt_of_le (HS0.out b (SUB2.out b hb)) HB0.out.size) (fun hb2 => DIS1_2.out b hb2 hb)); clear O2; have O2 := O2_; clear O2_
  clear O1; have O1 := Lib.hid hs; clear hs
  have HG1 : Hid (Chg S (w.alloc (.cells #[.int .i64 x.1, .slice A1 x.2.1.length c1, .slice A2 x.2.2.length c2] 25)) w1) := hc.mono SUB1.out
  clear hc
  have HXo := HX; clear HX
  have x0 : w1.cell? ⟨w.heap.size, 0, none⟩ = some (.int .i64 x.1) := HXo.out.cell 0
  have x1 : w1.cell? ⟨w.heap.size, 1, none⟩ = some (.slice A1 x.2.1.length c1) := HXo.out.cell 1
  have x2 : w1.cell? ⟨w.heap.size, 2, none⟩ = some (.slice A2 x.2.2.length c2) := HXo.out.cell 2
  go_wp2_with fail
  refine (mark_L_c _ _ x.2.2 _ _ R1 O2.out (fun b hb => Nat.lt_of_lt_of_le (Nat.lt_of_lt_of_le (HS0.out b (SUB2.out b hb)) HB0.out.size) HG1.out.size) (by omega) (by have := HCT.out; omega)).mono ?_
  rintro e w2 ⟨rfl, hs, hc⟩
  have HX : Hid (Blk w2 w.heap.size 25 #[.int .i64 x.1, .slice A1 x.2.1.length c1, .slice A2 x.2.2.length c2]) := (hc.block w.heap.size (by exact HXo.out.lt) (fun hb => Nat.lt_irrefl _ (HS0.out _ (SUB2.out _ hb)))).trans HXo.out
  have O1_ := Lib.hid (O1.out.keep fun b hb => hc.block b (Nat.lt_of_lt_of_le (Nat.lt_of_lt_of_le (HS0.out b (SUB1.out b hb)) HB0.out.size) HG1.out.size) (fun hb2 => DIS1_2.out b hb hb2)); clear O1; have O1 := O1_; clear O1_
  clear O2; have O2 := Lib.hid hs; clear hs
  have HG2 : Hid (Chg S (w.alloc (.cells #[.int .i64 x.1, .slice A1 x.2.1.length c1, .slice A2 x.2.2.length c2] 25)) w2) := HG1.out.trans (hc.mono SUB2.out)
  clear hc
  clear HXo
  have HXo := HX; clear HX
  clear x0 x1 x2
  have x0 : w2.cell? ⟨w.heap.size, 0, none⟩ = some (.int .i64 x.1) := HXo.out.cell 0
  have x1 : w2.cell? ⟨w.heap.size, 1, none⟩ = some (.slice A1 x.2.1.length c1) := HXo.out.cell 1
  have x2 : w2.cell? ⟨w.heap.size, 2, none⟩ = some (.slice A2 x.2.2.length c2) := HXo.out.cell 2
  go_wp2
  go_ret
  refine ⟨ret_int (by have := HCT.out; omega), ?_, (Chg.of_below HB0.out).trans HG2.out⟩
  exact ⟨[_], _, S0, R0, rfl, p0, r0, ⟨rfl, g0⟩, ⟨[_], _, S1, R1, rfl, p1, r1, ⟨A1, c1, congrArg (fun m => [Value.slice A1 m c1]) (show x.2.1.length = (mv_Tag x k).2.1.length from (mkL_len _ _ _ _).symm), O1.out⟩, ⟨A2, c2, congrArg (fun m => [Value.slice A2 m c2]) (show x.2.2.length = (mv_Tag x k).2.2.length from (mkL_len _ _ _ _).symm), O2.out⟩⟩⟩

set_option maxRecDepth 100000 in
set_option maxHeartbeats 1000000 in
theorem held_Tag_c (es : List Value) (x : tTag) (k : Int) (w : World) (h : eTag.R w (Old w) es (mv_Tag x k)) (hk : 0 ≤ k) (hk' : k + (cv_Tag x : Int) ≤ 1000000000000) :
    Calls Try.prog 19 #[.agg es.toArray, .int .i64 k] w fun e w' => e = .returned (.int .i64 (k + (cv_Tag x : Int))) ∧ Below w.heap.size w w' := by
  obtain ⟨A1, c1, A2, c2, rfl, g0, g1, g2⟩ := shape_Tag h
  have e1 : (mv_Tag x k).2.1.length = x.2.1.length := mkL_len _ _ _ _
  have e2 : (mv_Tag x k).2.2.length = x.2.2.length := mkL_len _ _ _ _
  try clear h
  rw [e1, e2]
  clear e1 e2
  show Calls Try.prog 19 #[.agg #[.int .i64 x.1, .slice A1 x.2.1.length c1, .slice A2 x.2.2.length c2], .int .i64 k] w _
  have HB0 : Hid (Below w.heap.size w (w.alloc (.cells #[.int .i64 x.1, .slice A1 x.2.1.length c1, .slice A2 x.2.2.length c2] 25))) := (Below.refl _ _).alloc (Nat.le_refl _) _
  have HX := Lib.hid (Blk.new w 25 #[.int .i64 x.1, .slice A1 x.2.1.length c1, .slice A2 x.2.2.length c2])
  have O1 := Lib.hid (g1.on HB0.out); clear g1
  have O2 := Lib.hid (g2.on HB0.out); clear g2
  have HCT : Hid (cv_Tag x = ct_LL x.2.1 + ct_L x.2.2) := rfl
  go_enter Try.func19, Try.ntmps19
  go_wp2_with fail
  refine (held_LL_c _ _ x.2.1 _ _ (by exact O1.out) (by omega) (by have := HCT.out; omega)).mono ?_
  rintro e w1 ⟨rfl, hb⟩
  have HB1 := Lib.hid hb; clear hb
  have x0 : w1.cell? ⟨w.heap.size, 0, none⟩ = some (.int .i64 x.1) := (HX.out.on HB1.out).cell 0
  have x1 : w1.cell? ⟨w.heap.size, 1, none⟩ = some (.slice A1 x.2.1.length c1) := (HX.out.on HB1.out).cell 1
  have x2 : w1.cell? ⟨w.heap.size, 2, none⟩ = some (.slice A2 x.2.2.length c2) := (HX.out.on HB1.out).cell 2
  have n0 : ¬ k + (ct_LL x.2.1 : Int) < 0 := by omega
  go_wp2_with fail
  refine (held_L_c _ _ x.2.2 _ _ (by exact O2.out.on HB1.out) (by omega) (by have := HCT.out; omega)).mono ?_
  rintro e w2 ⟨rfl, hb⟩
  have HB2 := Lib.hid (below_trans HB1.out hb); clear hb
  clear x0 x1 x2
  have x0 : w2.cell? ⟨w.heap.size, 0, none⟩ = some (.int .i64 x.1) := (HX.out.on HB2.out).cell 0
  have x1 : w2.cell? ⟨w.heap.size, 1, none⟩ = some (.slice A1 x.2.1.length c1) := (HX.out.on HB2.out).cell 1
  have x2 : w2.cell? ⟨w.heap.size, 2, none⟩ = some (.slice A2 x.2.2.length c2) := (HX.out.on HB2.out).cell 2
  have n1 : ¬ k + (ct_LL x.2.1 : Int) + (ct_L x.2.2 : Int) < 0 := by omega
  go_wp2
  go_ret
  exact ⟨ret_int (by have := HCT.out; omega), below_trans HB0.out HB2.out⟩

def collatz : tTag := (2, [[1, 2], [0], [0, 0, 0]], [])

/-- A literal block of numbers is an owned slice. -/
theorem so_ints {w : World} {S : Nat → Prop} {g : Nat} {t : TypeId} {xs : List Int} (hB : Blk w g t (xs.map (Value.int .i64)).toArray) (hg : S g) (hI : ∀ x ∈ xs, I64 x) (hm : xs.length ≤ maxLen) : So eInt w S (some ⟨g, 0, none⟩) xs.length xs :=
  ⟨Nat.le_refl _, hm, fun _ => ⟨g, 0, t, _, fun _ _ => False, rfl, hg, hB, fun _ _ h => h.elim, fun _ _ _ h => h.elim, fun i x hx => ⟨[.int .i64 x], ⟨rfl, hI x (List.mem_of_getElem? hx)⟩, fun j v hv => by
    rcases j with _ | j
    · simp at hv; subst hv
      show (xs.map (Value.int .i64)).toArray[0 + i * 1 + 0]? = _
      rw [Nat.mul_one, Nat.add_zero, Nat.zero_add, List.getElem?_toArray, List.getElem?_map, hx]; rfl
    · simp at hv⟩⟩⟩

/-- Three slices in a literal block. -/
theorem so_three {α : Type} {E : Enc α} {w : World} {S : Nat → Prop} {g g0 g1 g2 : Nat} {t : TypeId} {x0 x1 x2 : List α} {A0 A1 A2 : Option Addr} {c0 c1 c2 : Nat} (hB : Blk w g t #[.slice A0 x0.length c0, .slice A1 x1.length c1, .slice A2 x2.length c2]) (hg : S g)
    (h0 : So E w (fun b => b = g0) A0 c0 x0) (h1 : So E w (fun b => b = g1) A1 c1 x1) (h2 : So E w (fun b => b = g2) A2 c2 x2) (s0 : S g0) (s1 : S g1) (s2 : S g2) (d01 : g0 ≠ g1) (d02 : g0 ≠ g2) (d12 : g1 ≠ g2) (n0 : g0 ≠ g) (n1 : g1 ≠ g) (n2 : g2 ≠ g) :
    So (eSl E) w S (some ⟨g, 0, none⟩) 3 [x0, x1, x2] :=
  ⟨Nat.le_refl _, by unfold maxLen; decide, fun _ => ⟨g, 0, t, _, fun i b => (i = 0 ∧ b = g0) ∨ (i = 1 ∧ b = g1) ∨ (i = 2 ∧ b = g2), rfl, hg, hB, by
      rintro i b (⟨_, rfl⟩ | ⟨_, rfl⟩ | ⟨_, rfl⟩) <;> constructor <;> assumption, by
      rintro i j b (⟨rfl, rfl⟩ | ⟨rfl, rfl⟩ | ⟨rfl, rfl⟩) (⟨rfl, h⟩ | ⟨rfl, h⟩ | ⟨rfl, h⟩) <;> first | rfl | (exfalso; first | exact d01 h | exact d01 h.symm | exact d02 h | exact d02 h.symm | exact d12 h | exact d12 h.symm), fun i x hx => by
    rcases i with _ | _ | _ | i
    · simp at hx; subst hx
      refine ⟨_, ⟨A0, c0, rfl, h0.more fun b hb => .inl ⟨rfl, hb⟩⟩, fun j v hv => ?_⟩
      rcases j with _ | j
      · simp at hv; subst hv; rfl
      · simp at hv
    · simp at hx; subst hx
      refine ⟨_, ⟨A1, c1, rfl, h1.more fun b hb => .inr (.inl ⟨rfl, hb⟩)⟩, fun j v hv => ?_⟩
      rcases j with _ | j
      · simp at hv; subst hv; rfl
      · simp at hv
    · simp at hx; subst hx
      refine ⟨_, ⟨A2, c2, rfl, h2.more fun b hb => .inr (.inr ⟨rfl, hb⟩)⟩, fun j v hv => ?_⟩
      rcases j with _ | j
      · simp at hv; subst hv; rfl
      · simp at hv
    · simp at hx⟩⟩

theorem collatz_O {w : World} {n t t' : Nat} {A : Option Addr} {c : Nat} (hc : c ≤ maxLen) (b1 : Blk w (n + 1) t #[.int .i64 1, .int .i64 2]) (b2 : Blk w (n + 1 + 1) t #[.int .i64 0]) (b3 : Blk w (n + 1 + 1 + 1) t #[.int .i64 0, .int .i64 0, .int .i64 0])
    (b4 : Blk w (n + 1 + 1 + 1 + 1) t' #[.slice (some ⟨n + 1, 0, none⟩) 2 2, .slice (some ⟨n + 1 + 1, 0, none⟩) 1 1, .slice (some ⟨n + 1 + 1 + 1, 0, none⟩) 3 3]) :
    eTag.O w (Iv n w.heap.size) [.int .i64 2, .slice (some ⟨n + 1 + 1 + 1 + 1, 0, none⟩) 3 3, .slice A 0 c] collatz := by
  have l1 := b1.lt
  have l2 := b2.lt
  have l3 := b3.lt
  have l4 := b4.lt
  have i0 : I64 0 := ⟨by omega, by omega⟩
  have i1 : I64 1 := ⟨by omega, by omega⟩
  have i2 : I64 2 := ⟨by omega, by omega⟩
  have s1 : So eInt w (fun b => b = n + 1) (some ⟨n + 1, 0, none⟩) 2 [1, 2] := so_ints (xs := [1, 2]) b1 rfl (by simp [i1, i2]) (by unfold maxLen; decide)
  have s2 : So eInt w (fun b => b = n + 1 + 1) (some ⟨n + 1 + 1, 0, none⟩) 1 [0] := so_ints (xs := [0]) b2 rfl (by simp [i0]) (by unfold maxLen; decide)
  have s3 : So eInt w (fun b => b = n + 1 + 1 + 1) (some ⟨n + 1 + 1 + 1, 0, none⟩) 3 [0, 0, 0] := so_ints (xs := [0, 0, 0]) b3 rfl (by simp [i0]) (by unfold maxLen; decide)
  have s4 : So (eSl eInt) w (Iv n w.heap.size) (some ⟨n + 1 + 1 + 1 + 1, 0, none⟩) 3 [[1, 2], [0], [0, 0, 0]] := so_three b4 ⟨by omega, by omega⟩ s1 s2 s3 ⟨by omega, by omega⟩ ⟨by omega, by omega⟩ ⟨by omega, by omega⟩ (by omega) (by omega) (by omega) (by omega) (by omega) (by omega)
  exact oPrI i2 ⟨[_], [_], _, fun _ => False, rfl, fun b hb => ⟨hb, fun h => h⟩, fun _ h => h.elim, oSl s4, oSl (So.nil hc)⟩

theorem spec_l09Collatz (w : World) :
    Calls Try.prog 75 #[] w fun e w' => ∃ es, e = .returned (.agg es.toArray) ∧ eTag.O w' (Fr w w') es collatz ∧ Below w.heap.size w w' := by
  go_enter Try.func75, Try.ntmps75
  go_wp2
  go_returns
  refine ⟨_, rfl, collatz_O (A := some ⟨w.heap.size + 1 + 1 + 1 + 1 + 1, 0, none⟩) (Nat.zero_le _) (((((Blk.newG (by simp)).alloc _).alloc _).alloc _).alloc _) ((((Blk.newG (by simp)).alloc _).alloc _).alloc _) (((Blk.newG (by simp)).alloc _).alloc _) ((Blk.newG (by simp)).alloc _), by go_grown⟩

set_option maxHeartbeats 400000 in
theorem spec_CollatzTag (w : World) :
    Calls Try.prog 15 #[] w fun e w' => ∃ es, e = .returned (.agg es.toArray) ∧ eTag.R w' (Old w') es collatz ∧ Below w.heap.size w w' := by
  go_enter Try.func15, Try.ntmps15
  go_wp2_with fail
  refine (spec_l09Collatz _).mono ?_
  rintro e w1 ⟨es, rfl, ho, hb⟩
  have hR := eTag.read ho
  have HO := Lib.hid ho; clear ho
  obtain ⟨A1, c1, A2, c2, rfl, _, _, _⟩ := shape_Tag hR
  have hB := (Blk.new w 25 #[.int .i64 0, .slice none 0 0, .slice none 0 0]).on hb
  have e0 := hB.cell 0
  have e1 := hB.cell 1
  have e2 := hB.cell 2
  have f0 := hB.frozen 0
  have f1 := hB.frozen 1
  have f2 := hB.frozen 2
  have HB := Lib.hid hB; clear hB
  have HL := Lib.hid hb; clear hb hR
  go_wp2
  have hE : Blk (((w1.setCell ⟨w.heap.size, 0, none⟩ (.int .i64 collatz.1)).setCell ⟨w.heap.size, 1, none⟩ (.slice A1 collatz.2.1.length c1)).setCell ⟨w.heap.size, 2, none⟩ (.slice A2 collatz.2.2.length c2)) w.heap.size 25 #[.int .i64 collatz.1, .slice A1 collatz.2.1.length c1, .slice A2 collatz.2.2.length c2] := ((HB.out.set 0 _).set 1 _).set 2 _
  have g0 := hE.cell 0
  have g1 := hE.cell 1
  have g2 := hE.cell 2
  refine bodyPost_ret (v := .agg #[.int .i64 collatz.1, .slice A1 collatz.2.1.length c1, .slice A2 collatz.2.2.length c2]) (by simp [results, Try.results15, go_sem, g0, g1, g2]) rfl ?_
  have hlt : w.heap.size < (w.alloc (.cells #[.int .i64 0, .slice none 0 0, .slice none 0 0] 25)).heap.size := by simp
  refine ⟨_, rfl, eTag.more (eTag.read (eTag.lat HO.out ((((Lat.refl _ w1).set (by exact hlt)).set (by exact hlt)).set (by exact hlt)) (Nat.le_refl _))) fun b hb => hb.2, ?_⟩
  exact (((below_trans (below_alloc (Below.refl _ _) _) HL.out).setCell (by exact Nat.le_refl _) _).setCell (by exact Nat.le_refl _) _).setCell (by exact Nat.le_refl _) _

theorem impl_CollatzTag (w : World) :
    Calls Try.prog 16 #[] w fun e w' => ∃ es, e = .returned (.agg es.toArray) ∧ eTag.O w' (Fr w w') es collatz ∧ Below w.heap.size w w' := by
  go_enter Try.func16, Try.ntmps16
  go_wp2
  go_returns
  refine ⟨_, rfl, collatz_O (A := none) (Nat.zero_le _) ((((Blk.newG (by simp)).alloc _).alloc _).alloc _) (((Blk.newG (by simp)).alloc _).alloc _) ((Blk.newG (by simp)).alloc _) (Blk.newG (by simp)), by go_grown⟩

set_option maxRecDepth 100000 in
set_option maxHeartbeats 8000000 in
theorem law_CollatzTag  (w : World)  :
    Calls Try.prog 3 #[] w fun e w' => e = .returned (.bool true) ∧ Below w.heap.size w w' := by
  have HBw := Lib.hid (Below.refl w.heap.size w)
  have HN0 : Hid ((cv_Tag (collatz) : Int) ≤ 1000000000) := by show _ ≤ _; decide
  go_enter Try.func3, Try.ntmps3
  go_wp2_with fail
  refine (spec_CollatzTag  _ ).mono ?_
  rintro e v0 ⟨esw0, rfl, hs0, hb⟩
  have hR0 := hs0
  have HW0 := Lib.hid hs0; clear hs0
  obtain ⟨Aw01, cw01, Aw02, cw02, rfl, gw00, gw01, gw02⟩ := shape_Tag hR0
  clear gw00 gw01 gw02
  try clear hR0
  have hbp : Below w.heap.size w v0 := hb
  have Zv0 : Hid (w.heap.size + 0 ≤ v0.heap.size) := by have h1 := hb.size; (try simp only [World.size_alloc, World.size_drew] at h1); show _ ≤ _; omega
  have HBv0 := Lib.hid (below_trans HBw.out hbp)
  clear hbp hb
  have HVv0 := Lib.hid (Below.refl v0.heap.size v0)
  have mw0_0 : (v0.alloc (.cells #[.int .i64 (collatz).1, .slice Aw01 (collatz).2.1.length cw01, .slice Aw02 (collatz).2.2.length cw02] 25)).cell? ⟨v0.heap.size, 0, none⟩ = some (.int .i64 (collatz).1) := (Blk.new v0 25 #[.int .i64 (collatz).1, .slice Aw01 (collatz).2.1.length cw01, .slice Aw02 (collatz).2.2.length cw02]).cell 0
  have mw0_1 : (v0.alloc (.cells #[.int .i64 (collatz).1, .slice Aw01 (collatz).2.1.length cw01, .slice Aw02 (collatz).2.2.length cw02] 25)).cell? ⟨v0.heap.size, 1, none⟩ = some (.slice Aw01 (collatz).2.1.length cw01) := (Blk.new v0 25 #[.int .i64 (collatz).1, .slice Aw01 (collatz).2.1.length cw01, .slice Aw02 (collatz).2.2.length cw02]).cell 1
  have mw0_2 : (v0.alloc (.cells #[.int .i64 (collatz).1, .slice Aw01 (collatz).2.1.length cw01, .slice Aw02 (collatz).2.2.length cw02] 25)).cell? ⟨v0.heap.size, 2, none⟩ = some (.slice Aw02 (collatz).2.2.length cw02) := (Blk.new v0 25 #[.int .i64 (collatz).1, .slice Aw01 (collatz).2.1.length cw01, .slice Aw02 (collatz).2.2.length cw02]).cell 2
  go_wp2_with fail
  refine (impl_CollatzTag  _ ).mono ?_
  rintro e vg ⟨esg0, rfl, hs0, hb⟩
  have hR0 := eTag.read hs0
  have HSg0 := Lib.hid (eTag.omore hs0 (Iv.mono (l' := v0.heap.size + 1) (h' := vg.heap.size) (by first | exact Nat.le_refl _ | (simp only [World.size_alloc, World.size_drew]; omega) | (simp; omega)) (Nat.le_refl _))); clear hs0
  obtain ⟨Ag01, cg01, Ag02, cg02, rfl, gg00, gg01, gg02⟩ := shape_Tag hR0
  clear gg00 gg01 gg02
  try clear hR0
  have hbp : Below v0.heap.size v0 vg := below_trans (below_alloc (Below.refl _ _) (.cells #[.int .i64 (collatz).1, .slice Aw01 (collatz).2.1.length cw01, .slice Aw02 (collatz).2.2.length cw02] 25)) hb
  have Zvg : Hid (v0.heap.size + 1 ≤ vg.heap.size) := by have h1 := hb.size; (try simp only [World.size_alloc, World.size_drew] at h1); show _ ≤ _; omega
  have HBvg := Lib.hid (below_trans HBv0.out hbp)
  have HVvg := Lib.hid (HVv0.out.trans (hbp.mono HVv0.out.size))
  have HXw0 := Lib.hid ((Blk.new v0 25 #[.int .i64 (collatz).1, .slice Aw01 (collatz).2.1.length cw01, .slice Aw02 (collatz).2.2.length cw02]).on hb)
  clear hbp hb
  clear mw0_0 mw0_1 mw0_2
  have fw0_0 : vg.cell? ⟨v0.heap.size, 0, none⟩ = some (.int .i64 (collatz).1) := HXw0.out.cell 0
  have fw0_1 : vg.cell? ⟨v0.heap.size, 1, none⟩ = some (.slice Aw01 (collatz).2.1.length cw01) := HXw0.out.cell 1
  have fw0_2 : vg.cell? ⟨v0.heap.size, 2, none⟩ = some (.slice Aw02 (collatz).2.2.length cw02) := HXw0.out.cell 2
  have mw0_0 : (vg.alloc (.cells #[.int .i64 (collatz).1, .slice Ag01 (collatz).2.1.length cg01, .slice Ag02 (collatz).2.2.length cg02] 25)).cell? ⟨v0.heap.size, 0, none⟩ = some (.int .i64 (collatz).1) := (HXw0.out.alloc _).cell 0
  have mw0_1 : (vg.alloc (.cells #[.int .i64 (collatz).1, .slice Ag01 (collatz).2.1.length cg01, .slice Ag02 (collatz).2.2.length cg02] 25)).cell? ⟨v0.heap.size, 1, none⟩ = some (.slice Aw01 (collatz).2.1.length cw01) := (HXw0.out.alloc _).cell 1
  have mw0_2 : (vg.alloc (.cells #[.int .i64 (collatz).1, .slice Ag01 (collatz).2.1.length cg01, .slice Ag02 (collatz).2.2.length cg02] 25)).cell? ⟨v0.heap.size, 2, none⟩ = some (.slice Aw02 (collatz).2.2.length cw02) := (HXw0.out.alloc _).cell 2
  have mg0_0 : (vg.alloc (.cells #[.int .i64 (collatz).1, .slice Ag01 (collatz).2.1.length cg01, .slice Ag02 (collatz).2.2.length cg02] 25)).cell? ⟨vg.heap.size, 0, none⟩ = some (.int .i64 (collatz).1) := (Blk.new vg 25 #[.int .i64 (collatz).1, .slice Ag01 (collatz).2.1.length cg01, .slice Ag02 (collatz).2.2.length cg02]).cell 0
  have mg0_1 : (vg.alloc (.cells #[.int .i64 (collatz).1, .slice Ag01 (collatz).2.1.length cg01, .slice Ag02 (collatz).2.2.length cg02] 25)).cell? ⟨vg.heap.size, 1, none⟩ = some (.slice Ag01 (collatz).2.1.length cg01) := (Blk.new vg 25 #[.int .i64 (collatz).1, .slice Ag01 (collatz).2.1.length cg01, .slice Ag02 (collatz).2.2.length cg02]).cell 1
  have mg0_2 : (vg.alloc (.cells #[.int .i64 (collatz).1, .slice Ag01 (collatz).2.1.length cg01, .slice Ag02 (collatz).2.2.length cg02] 25)).cell? ⟨vg.heap.size, 2, none⟩ = some (.slice Ag02 (collatz).2.2.length cg02) := (Blk.new vg 25 #[.int .i64 (collatz).1, .slice Ag01 (collatz).2.1.length cg01, .slice Ag02 (collatz).2.2.length cg02]).cell 2
  go_wp2_with fail
  refine (eq_Tag_c _ _ (collatz) (collatz) _ (by exact eTag.on (show eTag.R vg (Old vg) _ _ from (eTag.more (eTag.read HSg0.out) (fun b hS => (by have q2 := hS.2; show _ < _; have zv0 := Zv0.out; have zvg := Zvg.out; omega)))) (below_alloc (Below.refl _ _) (.cells #[.int .i64 (collatz).1, .slice Ag01 (collatz).2.1.length cg01, .slice Ag02 (collatz).2.2.length cg02] 25))) (by exact eTag.on (show eTag.R vg (Old vg) _ _ from (eTag.more (eTag.keep HW0.out (fun b hS => HVvg.out.cell hS)) (fun b hS => Nat.lt_of_lt_of_le hS HVvg.out.size))) (below_alloc (Below.refl _ _) (.cells #[.int .i64 (collatz).1, .slice Ag01 (collatz).2.1.length cg01, .slice Ag02 (collatz).2.2.length cg02] 25)))).mono ?_
  rintro e qa0 ⟨rfl, hb⟩
  rw [eq_Tag_refl]
  have hbp : Below vg.heap.size vg qa0 := below_trans (below_alloc (Below.refl _ _) (.cells #[.int .i64 (collatz).1, .slice Ag01 (collatz).2.1.length cg01, .slice Ag02 (collatz).2.2.length cg02] 25)) hb
  have Zqa0 : Hid (vg.heap.size + 1 ≤ qa0.heap.size) := by have h1 := hb.size; (try simp only [World.size_alloc, World.size_drew] at h1); show _ ≤ _; omega
  have HBqa0 := Lib.hid (below_trans HBvg.out hbp)
  have HVqa0 := Lib.hid (HVvg.out.trans (hbp.mono HVvg.out.size))
  have HXw0_ := Lib.hid (HXw0.out.on hbp); clear HXw0; have HXw0 := HXw0_; clear HXw0_
  have HXg0 := Lib.hid ((Blk.new vg 25 #[.int .i64 (collatz).1, .slice Ag01 (collatz).2.1.length cg01, .slice Ag02 (collatz).2.2.length cg02]).on hb)
  have HSg0_ := Lib.hid (eTag.okeep HSg0.out (fun b hS => hbp.block b (by have q1 := hS.1; have q2 := hS.2; have zv0 := Zv0.out; have zvg := Zvg.out; omega))); clear HSg0; have HSg0 := HSg0_; clear HSg0_
  clear hbp hb
  clear fw0_0 fw0_1 fw0_2 mw0_0 mw0_1 mw0_2 mg0_0 mg0_1 mg0_2
  have fw0_0 : qa0.cell? ⟨v0.heap.size, 0, none⟩ = some (.int .i64 (collatz).1) := HXw0.out.cell 0
  have fw0_1 : qa0.cell? ⟨v0.heap.size, 1, none⟩ = some (.slice Aw01 (collatz).2.1.length cw01) := HXw0.out.cell 1
  have fw0_2 : qa0.cell? ⟨v0.heap.size, 2, none⟩ = some (.slice Aw02 (collatz).2.2.length cw02) := HXw0.out.cell 2
  have fg0_0 : qa0.cell? ⟨vg.heap.size, 0, none⟩ = some (.int .i64 (collatz).1) := HXg0.out.cell 0
  have fg0_1 : qa0.cell? ⟨vg.heap.size, 1, none⟩ = some (.slice Ag01 (collatz).2.1.length cg01) := HXg0.out.cell 1
  have fg0_2 : qa0.cell? ⟨vg.heap.size, 2, none⟩ = some (.slice Ag02 (collatz).2.2.length cg02) := HXg0.out.cell 2
  go_wp2_with fail
  refine (mark_Tag_c _ (collatz) _ _ _ HSg0.out (fun b hS => (by have q2 := hS.2; have zv0 := Zv0.out; have zvg := Zvg.out; have zqa0 := Zqa0.out; omega)) (by omega) (by have := HN0.out; omega)).mono ?_
  rintro e mg0 ⟨rfl, hs, hc⟩
  clear HSg0; have HSg0 := Lib.hid hs; clear hs
  have Zmg0 : Hid (qa0.heap.size + 0 ≤ mg0.heap.size) := by have h1 := hc.size; (try simp only [World.size_alloc, World.size_drew] at h1); show _ ≤ _; omega
  have HBmg0 := Lib.hid (HBqa0.out.trans (hc.below HBqa0.out.size (fun b hS => (by have q1 := hS.1; have zv0 := Zv0.out; have zvg := Zvg.out; have zqa0 := Zqa0.out; omega))))
  have HVmg0 := Lib.hid (HVqa0.out.trans (hc.below HVqa0.out.size (fun b hS => (by have q1 := hS.1; have zv0 := Zv0.out; have zvg := Zvg.out; have zqa0 := Zqa0.out; omega))))
  have HXw0_ := Lib.hid (HXw0.out.chg hc (fun hS => (by have q1 := hS.1; have q2 := hS.2; have zv0 := Zv0.out; have zvg := Zvg.out; have zqa0 := Zqa0.out; omega))); clear HXw0; have HXw0 := HXw0_; clear HXw0_
  have HXg0_ := Lib.hid (HXg0.out.chg hc (fun hS => (by have q1 := hS.1; have q2 := hS.2; have zv0 := Zv0.out; have zvg := Zvg.out; have zqa0 := Zqa0.out; omega))); clear HXg0; have HXg0 := HXg0_; clear HXg0_
  clear hc
  clear fw0_0 fw0_1 fw0_2 fg0_0 fg0_1 fg0_2
  have fw0_0 : mg0.cell? ⟨v0.heap.size, 0, none⟩ = some (.int .i64 (collatz).1) := HXw0.out.cell 0
  have fw0_1 : mg0.cell? ⟨v0.heap.size, 1, none⟩ = some (.slice Aw01 (collatz).2.1.length cw01) := HXw0.out.cell 1
  have fw0_2 : mg0.cell? ⟨v0.heap.size, 2, none⟩ = some (.slice Aw02 (collatz).2.2.length cw02) := HXw0.out.cell 2
  have fg0_0 : mg0.cell? ⟨vg.heap.size, 0, none⟩ = some (.int .i64 (collatz).1) := HXg0.out.cell 0
  have fg0_1 : mg0.cell? ⟨vg.heap.size, 1, none⟩ = some (.slice Ag01 (collatz).2.1.length cg01) := HXg0.out.cell 1
  have fg0_2 : mg0.cell? ⟨vg.heap.size, 2, none⟩ = some (.slice Ag02 (collatz).2.2.length cg02) := HXg0.out.cell 2
  go_wp2_with fail
  refine (held_Tag_c _ (collatz) _ _ (by exact (eTag.more (eTag.read HSg0.out) (fun b hS => (by have q2 := hS.2; show _ < _; have zv0 := Zv0.out; have zvg := Zvg.out; have zqa0 := Zqa0.out; have zmg0 := Zmg0.out; omega)))) (by omega) (by have := HN0.out; omega)).mono ?_
  rintro e d0 ⟨rfl, hb⟩
  have hbp : Below mg0.heap.size mg0 d0 := hb
  have Zd0 : Hid (mg0.heap.size + 0 ≤ d0.heap.size) := by have h1 := hb.size; (try simp only [World.size_alloc, World.size_drew] at h1); show _ ≤ _; omega
  have HBd0 := Lib.hid (below_trans HBmg0.out hbp)
  have HVd0 := Lib.hid (HVmg0.out.trans (hbp.mono HVmg0.out.size))
  have HXw0_ := Lib.hid (HXw0.out.on hbp); clear HXw0; have HXw0 := HXw0_; clear HXw0_
  have HXg0_ := Lib.hid (HXg0.out.on hbp); clear HXg0; have HXg0 := HXg0_; clear HXg0_
  have HSg0_ := Lib.hid (eTag.okeep HSg0.out (fun b hS => hbp.block b (by have q1 := hS.1; have q2 := hS.2; have zv0 := Zv0.out; have zvg := Zvg.out; have zqa0 := Zqa0.out; have zmg0 := Zmg0.out; omega))); clear HSg0; have HSg0 := HSg0_; clear HSg0_
  clear hbp hb
  clear fw0_0 fw0_1 fw0_2 fg0_0 fg0_1 fg0_2
  have fw0_0 : d0.cell? ⟨v0.heap.size, 0, none⟩ = some (.int .i64 (collatz).1) := HXw0.out.cell 0
  have fw0_1 : d0.cell? ⟨v0.heap.size, 1, none⟩ = some (.slice Aw01 (collatz).2.1.length cw01) := HXw0.out.cell 1
  have fw0_2 : d0.cell? ⟨v0.heap.size, 2, none⟩ = some (.slice Aw02 (collatz).2.2.length cw02) := HXw0.out.cell 2
  have fg0_0 : d0.cell? ⟨vg.heap.size, 0, none⟩ = some (.int .i64 (collatz).1) := HXg0.out.cell 0
  have fg0_1 : d0.cell? ⟨vg.heap.size, 1, none⟩ = some (.slice Ag01 (collatz).2.1.length cg01) := HXg0.out.cell 1
  have fg0_2 : d0.cell? ⟨vg.heap.size, 2, none⟩ = some (.slice Ag02 (collatz).2.2.length cg02) := HXg0.out.cell 2
  have mpos : ¬ (1 + (cv_Tag (collatz) : Int)) < 0 := by omega
  go_wp2_with fail
  refine (impl_CollatzTag  _ ).mono ?_
  rintro e vh ⟨esh0, rfl, hs0, hb⟩
  have hR0 := eTag.read hs0
  have HSh0 := Lib.hid (eTag.omore hs0 (Iv.mono (l' := d0.heap.size) (h' := vh.heap.size) (by first | exact Nat.le_refl _ | (simp only [World.size_alloc, World.size_drew]; omega) | (simp; omega)) (Nat.le_refl _))); clear hs0
  obtain ⟨Ah01, ch01, Ah02, ch02, rfl, gh00, gh01, gh02⟩ := shape_Tag hR0
  clear gh00 gh01 gh02
  try clear hR0
  have hbp : Below d0.heap.size d0 vh := hb
  have Zvh : Hid (d0.heap.size + 0 ≤ vh.heap.size) := by have h1 := hb.size; (try simp only [World.size_alloc, World.size_drew] at h1); show _ ≤ _; omega
  have HBvh := Lib.hid (below_trans HBd0.out hbp)
  have HVvh := Lib.hid (HVd0.out.trans (hbp.mono HVd0.out.size))
  have HXw0_ := Lib.hid (HXw0.out.on hbp); clear HXw0; have HXw0 := HXw0_; clear HXw0_
  have HXg0_ := Lib.hid (HXg0.out.on hbp); clear HXg0; have HXg0 := HXg0_; clear HXg0_
  have HSg0_ := Lib.hid (eTag.okeep HSg0.out (fun b hS => hbp.block b (by have q1 := hS.1; have q2 := hS.2; have zv0 := Zv0.out; have zvg := Zvg.out; have zqa0 := Zqa0.out; have zmg0 := Zmg0.out; have zd0 := Zd0.out; omega))); clear HSg0; have HSg0 := HSg0_; clear HSg0_
  clear hbp hb
  clear fw0_0 fw0_1 fw0_2 fg0_0 fg0_1 fg0_2
  have fw0_0 : vh.cell? ⟨v0.heap.size, 0, none⟩ = some (.int .i64 (collatz).1) := HXw0.out.cell 0
  have fw0_1 : vh.cell? ⟨v0.heap.size, 1, none⟩ = some (.slice Aw01 (collatz).2.1.length cw01) := HXw0.out.cell 1
  have fw0_2 : vh.cell? ⟨v0.heap.size, 2, none⟩ = some (.slice Aw02 (collatz).2.2.length cw02) := HXw0.out.cell 2
  have fg0_0 : vh.cell? ⟨vg.heap.size, 0, none⟩ = some (.int .i64 (collatz).1) := HXg0.out.cell 0
  have fg0_1 : vh.cell? ⟨vg.heap.size, 1, none⟩ = some (.slice Ag01 (collatz).2.1.length cg01) := HXg0.out.cell 1
  have fg0_2 : vh.cell? ⟨vg.heap.size, 2, none⟩ = some (.slice Ag02 (collatz).2.2.length cg02) := HXg0.out.cell 2
  have mw0_0 : (vh.alloc (.cells #[.int .i64 (collatz).1, .slice Ah01 (collatz).2.1.length ch01, .slice Ah02 (collatz).2.2.length ch02] 25)).cell? ⟨v0.heap.size, 0, none⟩ = some (.int .i64 (collatz).1) := (HXw0.out.alloc _).cell 0
  have mw0_1 : (vh.alloc (.cells #[.int .i64 (collatz).1, .slice Ah01 (collatz).2.1.length ch01, .slice Ah02 (collatz).2.2.length ch02] 25)).cell? ⟨v0.heap.size, 1, none⟩ = some (.slice Aw01 (collatz).2.1.length cw01) := (HXw0.out.alloc _).cell 1
  have mw0_2 : (vh.alloc (.cells #[.int .i64 (collatz).1, .slice Ah01 (collatz).2.1.length ch01, .slice Ah02 (collatz).2.2.length ch02] 25)).cell? ⟨v0.heap.size, 2, none⟩ = some (.slice Aw02 (collatz).2.2.length cw02) := (HXw0.out.alloc _).cell 2
  have mg0_0 : (vh.alloc (.cells #[.int .i64 (collatz).1, .slice Ah01 (collatz).2.1.length ch01, .slice Ah02 (collatz).2.2.length ch02] 25)).cell? ⟨vg.heap.size, 0, none⟩ = some (.int .i64 (collatz).1) := (HXg0.out.alloc _).cell 0
  have mg0_1 : (vh.alloc (.cells #[.int .i64 (collatz).1, .slice Ah01 (collatz).2.1.length ch01, .slice Ah02 (collatz).2.2.length ch02] 25)).cell? ⟨vg.heap.size, 1, none⟩ = some (.slice Ag01 (collatz).2.1.length cg01) := (HXg0.out.alloc _).cell 1
  have mg0_2 : (vh.alloc (.cells #[.int .i64 (collatz).1, .slice Ah01 (collatz).2.1.length ch01, .slice Ah02 (collatz).2.2.length ch02] 25)).cell? ⟨vg.heap.size, 2, none⟩ = some (.slice Ag02 (collatz).2.2.length cg02) := (HXg0.out.alloc _).cell 2
  have mh0_0 : (vh.alloc (.cells #[.int .i64 (collatz).1, .slice Ah01 (collatz).2.1.length ch01, .slice Ah02 (collatz).2.2.length ch02] 25)).cell? ⟨vh.heap.size, 0, none⟩ = some (.int .i64 (collatz).1) := (Blk.new vh 25 #[.int .i64 (collatz).1, .slice Ah01 (collatz).2.1.length ch01, .slice Ah02 (collatz).2.2.length ch02]).cell 0
  have mh0_1 : (vh.alloc (.cells #[.int .i64 (collatz).1, .slice Ah01 (collatz).2.1.length ch01, .slice Ah02 (collatz).2.2.length ch02] 25)).cell? ⟨vh.heap.size, 1, none⟩ = some (.slice Ah01 (collatz).2.1.length ch01) := (Blk.new vh 25 #[.int .i64 (collatz).1, .slice Ah01 (collatz).2.1.length ch01, .slice Ah02 (collatz).2.2.length ch02]).cell 1
  have mh0_2 : (vh.alloc (.cells #[.int .i64 (collatz).1, .slice Ah01 (collatz).2.1.length ch01, .slice Ah02 (collatz).2.2.length ch02] 25)).cell? ⟨vh.heap.size, 2, none⟩ = some (.slice Ah02 (collatz).2.2.length ch02) := (Blk.new vh 25 #[.int .i64 (collatz).1, .slice Ah01 (collatz).2.1.length ch01, .slice Ah02 (collatz).2.2.length ch02]).cell 2
  go_wp2_with fail
  refine (eq_Tag_c _ _ (collatz) (collatz) _ (by exact eTag.on (show eTag.R vh (Old vh) _ _ from (eTag.more (eTag.read HSh0.out) (fun b hS => (by have q2 := hS.2; show _ < _; have zv0 := Zv0.out; have zvg := Zvg.out; have zqa0 := Zqa0.out; have zmg0 := Zmg0.out; have zd0 := Zd0.out; have zvh := Zvh.out; omega)))) (below_alloc (Below.refl _ _) (.cells #[.int .i64 (collatz).1, .slice Ah01 (collatz).2.1.length ch01, .slice Ah02 (collatz).2.2.length ch02] 25))) (by exact eTag.on (show eTag.R vh (Old vh) _ _ from (eTag.more (eTag.keep HW0.out (fun b hS => HVvh.out.cell hS)) (fun b hS => Nat.lt_of_lt_of_le hS HVvh.out.size))) (below_alloc (Below.refl _ _) (.cells #[.int .i64 (collatz).1, .slice Ah01 (collatz).2.1.length ch01, .slice Ah02 (collatz).2.2.length ch02] 25)))).mono ?_
  rintro e qc0 ⟨rfl, hb⟩
  rw [eq_Tag_refl]
  have hbp : Below vh.heap.size vh qc0 := below_trans (below_alloc (Below.refl _ _) (.cells #[.int .i64 (collatz).1, .slice Ah01 (collatz).2.1.length ch01, .slice Ah02 (collatz).2.2.length ch02] 25)) hb
  have Zqc0 : Hid (vh.heap.size + 1 ≤ qc0.heap.size) := by have h1 := hb.size; (try simp only [World.size_alloc, World.size_drew] at h1); show _ ≤ _; omega
  have HBqc0 := Lib.hid (below_trans HBvh.out hbp)
  have HVqc0 := Lib.hid (HVvh.out.trans (hbp.mono HVvh.out.size))
  have HXw0_ := Lib.hid (HXw0.out.on hbp); clear HXw0; have HXw0 := HXw0_; clear HXw0_
  have HXg0_ := Lib.hid (HXg0.out.on hbp); clear HXg0; have HXg0 := HXg0_; clear HXg0_
  have HXh0 := Lib.hid ((Blk.new vh 25 #[.int .i64 (collatz).1, .slice Ah01 (collatz).2.1.length ch01, .slice Ah02 (collatz).2.2.length ch02]).on hb)
  have HSg0_ := Lib.hid (eTag.okeep HSg0.out (fun b hS => hbp.block b (by have q1 := hS.1; have q2 := hS.2; have zv0 := Zv0.out; have zvg := Zvg.out; have zqa0 := Zqa0.out; have zmg0 := Zmg0.out; have zd0 := Zd0.out; have zvh := Zvh.out; omega))); clear HSg0; have HSg0 := HSg0_; clear HSg0_
  have HSh0_ := Lib.hid (eTag.okeep HSh0.out (fun b hS => hbp.block b (by have q1 := hS.1; have q2 := hS.2; have zv0 := Zv0.out; have zvg := Zvg.out; have zqa0 := Zqa0.out; have zmg0 := Zmg0.out; have zd0 := Zd0.out; have zvh := Zvh.out; omega))); clear HSh0; have HSh0 := HSh0_; clear HSh0_
  clear hbp hb
  clear fw0_0 fw0_1 fw0_2 fg0_0 fg0_1 fg0_2 mw0_0 mw0_1 mw0_2 mg0_0 mg0_1 mg0_2 mh0_0 mh0_1 mh0_2
  have fw0_0 : qc0.cell? ⟨v0.heap.size, 0, none⟩ = some (.int .i64 (collatz).1) := HXw0.out.cell 0
  have fw0_1 : qc0.cell? ⟨v0.heap.size, 1, none⟩ = some (.slice Aw01 (collatz).2.1.length cw01) := HXw0.out.cell 1
  have fw0_2 : qc0.cell? ⟨v0.heap.size, 2, none⟩ = some (.slice Aw02 (collatz).2.2.length cw02) := HXw0.out.cell 2
  have fg0_0 : qc0.cell? ⟨vg.heap.size, 0, none⟩ = some (.int .i64 (collatz).1) := HXg0.out.cell 0
  have fg0_1 : qc0.cell? ⟨vg.heap.size, 1, none⟩ = some (.slice Ag01 (collatz).2.1.length cg01) := HXg0.out.cell 1
  have fg0_2 : qc0.cell? ⟨vg.heap.size, 2, none⟩ = some (.slice Ag02 (collatz).2.2.length cg02) := HXg0.out.cell 2
  have fh0_0 : qc0.cell? ⟨vh.heap.size, 0, none⟩ = some (.int .i64 (collatz).1) := HXh0.out.cell 0
  have fh0_1 : qc0.cell? ⟨vh.heap.size, 1, none⟩ = some (.slice Ah01 (collatz).2.1.length ch01) := HXh0.out.cell 1
  have fh0_2 : qc0.cell? ⟨vh.heap.size, 2, none⟩ = some (.slice Ah02 (collatz).2.2.length ch02) := HXh0.out.cell 2
  go_wp2_with fail
  refine (held_Tag_c _ (collatz) _ _ (by exact (eTag.more (eTag.read HSg0.out) (fun b hS => (by have q2 := hS.2; show _ < _; have zv0 := Zv0.out; have zvg := Zvg.out; have zqa0 := Zqa0.out; have zmg0 := Zmg0.out; have zd0 := Zd0.out; have zvh := Zvh.out; have zqc0 := Zqc0.out; omega)))) (by omega) (by have := HN0.out; omega)).mono ?_
  rintro e e0 ⟨rfl, hb⟩
  have hbp : Below qc0.heap.size qc0 e0 := hb
  have Ze0 : Hid (qc0.heap.size + 0 ≤ e0.heap.size) := by have h1 := hb.size; (try simp only [World.size_alloc, World.size_drew] at h1); show _ ≤ _; omega
  have HBe0 := Lib.hid (below_trans HBqc0.out hbp)
  have HVe0 := Lib.hid (HVqc0.out.trans (hbp.mono HVqc0.out.size))
  have HXw0_ := Lib.hid (HXw0.out.on hbp); clear HXw0; have HXw0 := HXw0_; clear HXw0_
  have HXg0_ := Lib.hid (HXg0.out.on hbp); clear HXg0; have HXg0 := HXg0_; clear HXg0_
  have HXh0_ := Lib.hid (HXh0.out.on hbp); clear HXh0; have HXh0 := HXh0_; clear HXh0_
  have HSg0_ := Lib.hid (eTag.okeep HSg0.out (fun b hS => hbp.block b (by have q1 := hS.1; have q2 := hS.2; have zv0 := Zv0.out; have zvg := Zvg.out; have zqa0 := Zqa0.out; have zmg0 := Zmg0.out; have zd0 := Zd0.out; have zvh := Zvh.out; have zqc0 := Zqc0.out; omega))); clear HSg0; have HSg0 := HSg0_; clear HSg0_
  have HSh0_ := Lib.hid (eTag.okeep HSh0.out (fun b hS => hbp.block b (by have q1 := hS.1; have q2 := hS.2; have zv0 := Zv0.out; have zvg := Zvg.out; have zqa0 := Zqa0.out; have zmg0 := Zmg0.out; have zd0 := Zd0.out; have zvh := Zvh.out; have zqc0 := Zqc0.out; omega))); clear HSh0; have HSh0 := HSh0_; clear HSh0_
  clear hbp hb
  clear fw0_0 fw0_1 fw0_2 fg0_0 fg0_1 fg0_2 fh0_0 fh0_1 fh0_2
  have fw0_0 : e0.cell? ⟨v0.heap.size, 0, none⟩ = some (.int .i64 (collatz).1) := HXw0.out.cell 0
  have fw0_1 : e0.cell? ⟨v0.heap.size, 1, none⟩ = some (.slice Aw01 (collatz).2.1.length cw01) := HXw0.out.cell 1
  have fw0_2 : e0.cell? ⟨v0.heap.size, 2, none⟩ = some (.slice Aw02 (collatz).2.2.length cw02) := HXw0.out.cell 2
  have fg0_0 : e0.cell? ⟨vg.heap.size, 0, none⟩ = some (.int .i64 (collatz).1) := HXg0.out.cell 0
  have fg0_1 : e0.cell? ⟨vg.heap.size, 1, none⟩ = some (.slice Ag01 (collatz).2.1.length cg01) := HXg0.out.cell 1
  have fg0_2 : e0.cell? ⟨vg.heap.size, 2, none⟩ = some (.slice Ag02 (collatz).2.2.length cg02) := HXg0.out.cell 2
  have fh0_0 : e0.cell? ⟨vh.heap.size, 0, none⟩ = some (.int .i64 (collatz).1) := HXh0.out.cell 0
  have fh0_1 : e0.cell? ⟨vh.heap.size, 1, none⟩ = some (.slice Ah01 (collatz).2.1.length ch01) := HXh0.out.cell 1
  have fh0_2 : e0.cell? ⟨vh.heap.size, 2, none⟩ = some (.slice Ah02 (collatz).2.2.length ch02) := HXh0.out.cell 2
  go_wp2
  go_ret
  exact ⟨rfl, HBe0.out⟩

end Go.Proofs.Ytfbgiipmbmdliaa
