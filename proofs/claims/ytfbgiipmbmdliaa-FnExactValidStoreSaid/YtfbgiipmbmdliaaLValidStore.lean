/- What the proof of FnExactValidStore needs: contracts of the functions that it reaches, each once. -/
import Derived.Test.YtfbgiipmbmdliaaProg
import Derived.Test.YtfbgiipmbmdliaaQMem
import Derived.WalkKit
import Derived.WalkSpells
import Derived.Below
import Derived.LoopTactic
import Derived.Outline
import Derived.Deep.QuietTactic
import Derived.BigQuiet
import Derived.Deep.LoopGhost
import Derived.Handy
import Derived.Lib.Hide
import Derived.Shelf.Abstract
import Derived.StillTailTactics
import Derived.OwnWalk
import Derived.Maps.AppendAt
import Derived.RegionTactic
import Derived.Deep.RegionHeld3
namespace Go.Proofs.Ytfbgiipmbmdliaa
open Go.RowKit

/-- w' is w behind some draws. -/
def Dr (w w' : World) : Prop := ∃ m, w' = w.drewN m

theorem Dr.refl (w : World) : Dr w w := ⟨0, rfl⟩

theorem Dr.drewN {w w' : World} (h : Dr w w') (n : Nat) : Dr w (w'.drewN n) := by
  obtain ⟨m, rfl⟩ := h; exact ⟨m + n, World.drewN_drewN _ _ _⟩

theorem Dr.drew {w w' : World} (h : Dr w w') : Dr w w'.drew := h.drewN 1

theorem Dr.trans {a b c : World} (h : Dr a b) (k : Dr b c) : Dr a c := by
  obtain ⟨m, rfl⟩ := h; obtain ⟨n, rfl⟩ := k; exact ⟨m + n, World.drewN_drewN _ _ _⟩

theorem Dr.cell {w w' : World} (h : Dr w w') (p : Addr) : w'.cell? p = w.cell? p := by obtain ⟨m, rfl⟩ := h; rfl

theorem Dr.size {w w' : World} (h : Dr w w') : w'.heap.size = w.heap.size := by obtain ⟨m, rfl⟩ := h; rfl

theorem Dr.below {w w' : World} (h : Dr w w') : Below w.heap.size w w' := by obtain ⟨m, rfl⟩ := h; exact below_drewN (Below.refl _ _) m

theorem Dr.quiet {P : Program} {f : FuncId} {args : Array Value} {w : World} {n : Nat} {v : Value} (h : Calls P f args (w.drewN n) fun e w' => e = .returned v ∧ Dr (w.drewN n) w') : Calls P f args (w.drewN n) fun e w'' => e = .returned v ∧ ∃ m, w'' = w.drewN m :=
  Calls.quiet_of (h.mono fun _ _ ⟨he, hd⟩ => ⟨he, hd⟩)

theorem Dr.quiet0 {P : Program} {f : FuncId} {args : Array Value} {w : World} {n : Nat} {v : Value} (h : Calls P f args (w.drewN n) fun e w' => e = .returned v ∧ w.drewN n = w') : Calls P f args (w.drewN n) fun e w'' => e = .returned v ∧ ∃ m, w'' = w.drewN m :=
  Calls.quiet_of_same (h.mono fun _ _ ⟨he, hd⟩ => ⟨he, hd.symm⟩)

abbrev tInstr : Type := Int × Int × Int × Int

abbrev eInstr : Enc tInstr := (ePr eInt (ePr eInt (ePr eInt eInt)))

theorem shape_Instr {w : World} {S : Nat → Prop} {es : List Value} {x : tInstr} (h : eInstr.R w S es x) : es = [.int .i64 x.1, .int .i64 x.2.1, .int .i64 x.2.2.1, .int .i64 x.2.2.2] ∧ I64 x.1 ∧ I64 x.2.1 ∧ I64 x.2.2.1 ∧ I64 x.2.2.2 := by
  obtain ⟨_, _, rfl, ⟨rfl, h0⟩, ⟨_, _, rfl, ⟨rfl, h1⟩, ⟨_, _, rfl, ⟨rfl, h2⟩, ⟨rfl, h3⟩⟩⟩⟩ := h
  exact ⟨rfl, h0, h1, h2, h3⟩

abbrev tStore : Type := Int × (List Int)

abbrev eStore : Enc tStore := (ePr eInt (eSl eInt))

theorem shape_Store {w : World} {S : Nat → Prop} {es : List Value} {x : tStore} (h : eStore.R w S es x) : ∃ A1 c1, es = [.int .i64 x.1, .slice A1 x.2.length c1] ∧ I64 x.1 ∧ Sl eInt w S A1 c1 x.2 := by
  obtain ⟨_, _, rfl, ⟨rfl, h0⟩, ⟨A1, c1, rfl, h1⟩⟩ := h
  exact ⟨A1, c1, rfl, h0, h1⟩

theorem any_hit {α : Type} {p : α → Bool} {xs : List α} {k : Nat} (hk : k < xs.length) (h : p xs[k] = true) : xs.any p = true :=
  List.any_eq_true.2 ⟨_, List.getElem_mem hk, h⟩

theorem any_step {α : Type} {p : α → Bool} {xs : List α} {k : Nat} (hk : k < xs.length) (h0 : (xs.take k).any p = false) (h : p xs[k] = false) : (xs.take (k + 1)).any p = false := by
  rw [List.take_succ_eq_append_getElem hk, List.any_append, h0]; simp [h]

/-- Equality of two lists, element by element. -/
def eqL {α : Type} (p : α → α → Bool) : List α → List α → Bool
  | [], [] => true
  | x :: xs, y :: ys => p x y && eqL p xs ys
  | _, _ => false

theorem eqL_refl {α : Type} {p : α → α → Bool} (hp : ∀ x, p x x = true) : ∀ xs : List α, eqL p xs xs = true
  | [] => rfl
  | x :: xs => by rw [eqL, hp, eqL_refl hp xs]; rfl

theorem eqL_len {α : Type} {p : α → α → Bool} : ∀ (xs ys : List α), xs.length ≠ ys.length → eqL p xs ys = false
  | [], [], h => absurd rfl h
  | [], _ :: _, _ => rfl
  | _ :: _, [], _ => rfl
  | x :: xs, y :: ys, h => by rw [eqL, eqL_len xs ys (by simpa using h)]; simp

theorem eqL_get {α : Type} {p : α → α → Bool} : ∀ (xs ys : List α) (k : Nat) (h1 : k < xs.length) (h2 : k < ys.length), p xs[k] ys[k] = false → eqL p xs ys = false
  | x :: xs, y :: ys, 0, _, _, h => by rw [eqL]; simp at h; rw [h]; rfl
  | x :: xs, y :: ys, k + 1, h1, h2, h => by rw [eqL, eqL_get xs ys k (by simpa using h1) (by simpa using h2) (by simpa using h)]; simp

theorem eqL_all {α : Type} {p : α → α → Bool} : ∀ (xs ys : List α), xs.length = ys.length → (∀ k (h1 : k < xs.length) (h2 : k < ys.length), p xs[k] ys[k] = true) → eqL p xs ys = true
  | [], [], _, _ => rfl
  | x :: xs, y :: ys, hl, h => by
    have e : p x y = true := h 0 (Nat.zero_lt_succ _) (Nat.zero_lt_succ _)
    have e' : eqL p xs ys = true := eqL_all xs ys (by simpa using hl) fun k h1 h2 => h (k + 1) (Nat.succ_lt_succ h1) (Nat.succ_lt_succ h2)
    rw [eqL, e, e']; rfl
  | [], _ :: _, hl, _ => by simp at hl
  | _ :: _, [], hl, _ => by simp at hl

theorem ret_bool {a b : Bool} (h : a = b) : Ending.returned (.bool a) = .returned (.bool b) := by rw [h]

def withinB (n lo hi : Int) : Bool := decide (lo ≤ n) && decide (n ≤ hi)

theorem impl_within (n lo hi : Int) (w : World) :
    Calls Try.prog 81 #[.int .i64 n, .int .i64 lo, .int .i64 hi] w fun e w' => e = .returned (.bool (withinB n lo hi)) ∧ w = w' := by
  unfold withinB
  by_cases h1 : lo ≤ n
  · go_enter Try.func81, Try.ntmps81
    go_wp2
    go_ret
    exact ⟨by first | (simp; done) | simp [h1], rfl⟩
  · have h2 : decide (lo ≤ n) = false := by simpa using h1
    go_enter Try.func81, Try.ntmps81
    go_wp2
    go_ret
    exact ⟨by first | (simp; done) | simp [h2], rfl⟩

theorem spec_l00In (n lo hi : Int) (w : World) :
    Calls Try.prog 79 #[.int .i64 n, .int .i64 lo, .int .i64 hi] w fun e w' => e = .returned (.bool (withinB n lo hi)) ∧ w = w' := by
  unfold withinB
  by_cases h1 : lo ≤ n
  · go_enter Try.func79, Try.ntmps79
    go_wp2
    go_ret
    exact ⟨by first | (simp; done) | simp [h1], rfl⟩
  · have h2 : decide (lo ≤ n) = false := by simpa using h1
    go_enter Try.func79, Try.ntmps79
    go_wp2
    go_ret
    exact ⟨by first | (simp; done) | simp [h2], rfl⟩

theorem impl_size_Instr (a : Option Addr) (n c : Nat) (w : World) :
    Calls Try.prog 152 #[.slice a n c] w fun e w' => e = .returned (.int .i64 n) ∧ w = w' := by
  go_enter Try.func152, Try.ntmps152
  go_wp2
  go_ret
  exact ⟨rfl, rfl⟩

set_option maxHeartbeats 400000 in
theorem IndexFunc_Instr (p : tInstr → Bool) (g : Nat) (lb : Array Value) (A : Option Addr) (c : Nat) (xs : List tInstr) (w : World) (h : Sl eInstr w (Old w) A c xs)
    (eg : ∀ args w, (callFunc g args).run Try.prog w = .ok (.enter g args) w) (hp : ∀ W x es, x ∈ xs → Below w.heap.size w W → eInstr.R W (Old W) es x → Calls Try.prog g (#[.agg es.toArray] ++ lb) W fun e w' => e = .returned (.bool (p x)) ∧ Below W.heap.size W w') :
    Calls Try.prog 175 #[.slice A xs.length c, .func (.func g) #[] lb] w fun e w' => (∃ r : Int, e = .returned (.int .i64 r) ∧ decide (0 ≤ r) = xs.any p) ∧ Below w.heap.size w w' := by
  have hlen := h.len
  have H := Lib.hid h; clear h
  have HP := Lib.hid hp; clear hp
  go_enter Try.func175, Try.ntmps175
  go_wp2
  go_loopg [5, 8] xs.length (fun gg _ s8 wr => ∃ k : Nat, k ≤ xs.length ∧ xs.length - k ≤ gg ∧ s8 = .int .i64 k ∧ Hid (Below w.heap.size w wr) ∧ Hid ((xs.take k).any p = false))
  case atStart => exact ⟨0, Nat.zero_le _, by omega, rfl, Below.refl _ w, rfl⟩
  case round =>
    obtain ⟨k, hk, hg, rfl, BW, HN⟩ := hrel
    by_cases hlt : k < xs.length
    · have hltz : (k : Int) < (xs.length : Int) := by omega
      obtain ⟨b, off, es, rfl, hb, hR, hc⟩ := H.out.at hlt
      have hcall := HP.out wr xs[k] _ (List.getElem_mem hlt) BW.out (eInstr.on hR BW.out)
      obtain ⟨rfl, gq0, gq1, gq2, gq3⟩ := shape_Instr hR
      have d0 : wr.cell? ⟨b, off + k * 4, none⟩ = some (.int .i64 xs[k].1) := (below_olds BW.out _ hb).trans (hc 0 _ rfl)
      have d1 : wr.cell? ⟨b, off + k * 4 + 1, none⟩ = some (.int .i64 xs[k].2.1) := (below_olds BW.out _ hb).trans (hc 1 _ rfl)
      have d2 : wr.cell? ⟨b, off + k * 4 + 2, none⟩ = some (.int .i64 xs[k].2.2.1) := (below_olds BW.out _ hb).trans (hc 2 _ rfl)
      have d3 : wr.cell? ⟨b, off + k * 4 + 3, none⟩ = some (.int .i64 xs[k].2.2.2) := (below_olds BW.out _ hb).trans (hc 3 _ rfl)
      clear hc gq0 gq1 gq2 gq3
      try clear hR
      have HQ1 : Hid (p xs[k] = true → xs.any p = true) := any_hit hlt
      have HQ0 : Hid (p xs[k] = false → (xs.take (k + 1)).any p = false) := any_step hlt HN.out
      generalize xs[k] = y at d0 d1 d2 d3 hcall HQ1 HQ0
      cases hq : p y with
      | true =>
        rw [hq] at hcall
        have HQ := Lib.hid (HQ1.out hq); clear hq HQ1 HQ0
        go_wp2_with (go_at_fn g; refine hcall.mono ?_; rintro e w' ⟨rfl, hb'⟩)
        go_ret
        exact ⟨⟨k, rfl, by rw [HQ.out]; simp⟩, below_trans BW.out hb'⟩
      | false =>
        rw [hq] at hcall
        have HQ := Lib.hid (HQ0.out hq); clear hq HQ1 HQ0
        go_wp2_with (go_at_fn g; refine hcall.mono ?_; rintro e w' ⟨rfl, hb'⟩)
        go_roundg (xs.length - (k + 1))
        case measure => omega
        case rel => exact ⟨k + 1, by omega, by omega, by go_num, below_trans BW.out hb', HQ.out⟩
    · have hltz : ¬ (k : Int) < (xs.length : Int) := by omega
      obtain rfl : k = xs.length := by omega
      go_wp2
      go_ret
      refine ⟨⟨-1, rfl, ?_⟩, BW.out⟩
      have := HN.out
      rw [List.take_length] at this
      rw [this]; rfl

theorem ContainsFunc_Instr (p : tInstr → Bool) (g : Nat) (lb : Array Value) (A : Option Addr) (c : Nat) (xs : List tInstr) (w : World) (h : Sl eInstr w (Old w) A c xs)
    (eg : ∀ args w, (callFunc g args).run Try.prog w = .ok (.enter g args) w) (hp : ∀ W x es, x ∈ xs → Below w.heap.size w W → eInstr.R W (Old W) es x → Calls Try.prog g (#[.agg es.toArray] ++ lb) W fun e w' => e = .returned (.bool (p x)) ∧ Below W.heap.size W w') :
    Calls Try.prog 149 #[.slice A xs.length c, .func (.func g) #[] lb] w fun e w' => e = .returned (.bool (xs.any p)) ∧ Below w.heap.size w w' := by
  have hI := Lib.hid (IndexFunc_Instr p g lb A c xs w h eg hp); clear h hp eg
  go_enter Try.func149, Try.ntmps149
  go_wp2_with (go_at_call 175; refine hI.out.mono ?_; rintro e w' ⟨⟨r, rfl, hr⟩, hb⟩; have HR := Lib.hid hr; clear hr)
  go_ret
  exact ⟨by rw [← HR.out]; rfl, hb⟩

/-- What the size functions of the laws answer. -/
def left (l : Int) (n : Nat) : Int := if l - n < 0 then -1 else l - n

theorem left_neg {l : Int} {n : Nat} (h : l - n < 0) : left l n = -1 := if_pos h

theorem left_pos {l : Int} {n : Nat} (h : ¬ l - n < 0) : left l n = l - n := if_neg h

def cost_L (xs : List Int) : Nat := xs.length

def cost_Store (x : tStore) : Nat := cost_L x.2

def cost_SInstr (xs : List tInstr) : Nat := xs.length

theorem sz_Int64S (A : Option Addr) (c : Nat) (xs : List Int) (l : Int) (w : World) (h : Sl eInt w (Old w) A c xs) (h0 : 0 ≤ l) (h1 : l ≤ 1048576) :
    Calls Try.prog 95 #[.slice A xs.length c, .int .i64 l] w fun e w' => e = .returned (.int .i64 (left l (cost_L xs))) ∧ Below w.heap.size w w' := by
  have hlen := h.len
  clear h
  unfold cost_L
  by_cases hl : l - xs.length < 0
  · rw [left_neg hl]
    go_enter Try.func95, Try.ntmps95
    go_wp2
    go_ret
    exact ⟨rfl, Below.refl _ _⟩
  · rw [left_pos hl]
    go_enter Try.func95, Try.ntmps95
    go_wp2
    go_ret
    exact ⟨rfl, Below.refl _ _⟩

theorem sz_InstrS (A : Option Addr) (c : Nat) (xs : List tInstr) (l : Int) (w : World) (h : Sl eInstr w (Old w) A c xs) (h0 : 0 ≤ l) (h1 : l ≤ 1048576) :
    Calls Try.prog 32 #[.slice A xs.length c, .int .i64 l] w fun e w' => e = .returned (.int .i64 (left l (cost_SInstr xs))) ∧ Below w.heap.size w w' := by
  have hlen := h.len
  clear h
  unfold cost_SInstr
  by_cases hl : l - xs.length < 0
  · rw [left_neg hl]
    go_enter Try.func32, Try.ntmps32
    go_wp2
    go_ret
    exact ⟨rfl, Below.refl _ _⟩
  · rw [left_pos hl]
    go_enter Try.func32, Try.ntmps32
    go_wp2
    go_ret
    exact ⟨rfl, Below.refl _ _⟩

set_option maxHeartbeats 1000000 in
theorem sz_Store (es : List Value) (x : tStore) (l : Int) (w : World) (h : eStore.R w (Old w) es x) (h0 : 0 ≤ l) (h1 : l ≤ 1048576) :
    Calls Try.prog 33 #[.agg es.toArray, .int .i64 l] w fun e w' => e = .returned (.int .i64 (left l (cost_Store x))) ∧ Below w.heap.size w w' := by
  obtain ⟨A1, c1, rfl, g0, g1⟩ := shape_Store h
  have HT : Hid (cost_Store x = cost_L x.2) := rfl
  have HB0 := Lib.hid ((Below.refl w.heap.size w).alloc (Nat.le_refl _) (.cells #[.int .i64 x.1, .slice A1 x.2.length c1] 53))
  have K1 := Lib.hid (g1.on HB0.out); clear g1
  clear g0
  by_cases t0 : l - (cost_L x.2 : Nat) < 0
  · rw [left_neg (by rw [HT.out]; omega)]
    go_enter Try.func33, Try.ntmps33
    go_wp2_with fail
    refine (sz_Int64S _ _ x.2 _ _ K1.out (by omega) (by omega)).mono ?_
    rintro e w1 ⟨rfl, hb⟩
    rw [left_neg (by omega)]
    have HB1 := Lib.hid hb
    clear hb
    obtain ⟨hc, hf⟩ := bcell HB1.out
    go_wp2
    go_ret
    exact ⟨rfl, HB0.out.trans (HB1.out.mono HB0.out.size)⟩
  rw [left_pos (by rw [HT.out]; omega), show l - ((cost_Store x : Nat) : Int) = l - (cost_L x.2 : Nat) from by rw [HT.out]; first | done | omega]
  go_enter Try.func33, Try.ntmps33
  go_wp2_with fail
  refine (sz_Int64S _ _ x.2 _ _ K1.out (by omega) (by omega)).mono ?_
  rintro e w1 ⟨rfl, hb⟩
  rw [left_pos (by omega)]
  have HB1 := Lib.hid hb
  clear hb
  obtain ⟨hc, hf⟩ := bcell HB1.out
  go_wp2
  go_ret
  exact ⟨rfl, HB0.out.trans (HB1.out.mono HB0.out.size)⟩

def eq_i (x y : Int) : Bool := x == y

def eq_L (x y : List Int) : Bool := eqL eq_i x y

theorem eq_i_refl (x : Int) : eq_i x x = true := by simp [eq_i]

theorem eq_L_refl (x : List Int) : eq_L x x = true := eqL_refl eq_i_refl x

def eq_Instr (x y : tInstr) : Bool := eq_i x.1 y.1 && eq_i x.2.1 y.2.1 && eq_i x.2.2.1 y.2.2.1 && eq_i x.2.2.2 y.2.2.2

theorem eq_Instr_refl (x : tInstr) : eq_Instr x x = true := by unfold eq_Instr; simp [eq_i_refl]

def eq_SInstr (x y : List tInstr) : Bool := eqL eq_Instr x y

theorem eq_SInstr_refl (x : List tInstr) : eq_SInstr x x = true := eqL_refl eq_Instr_refl x

def eq_Store (x y : tStore) : Bool := eq_i x.1 y.1 && eq_L x.2 y.2

theorem eq_Store_refl (x : tStore) : eq_Store x x = true := by unfold eq_Store; simp [eq_L_refl, eq_i_refl]

set_option maxRecDepth 100000 in
set_option maxHeartbeats 1000000 in
theorem eq_L_c (A A' : Option Addr) (c c' : Nat) (xs ys : List Int) (w : World) (h : Sl eInt w (Old w) A c xs) (h' : Sl eInt w (Old w) A' c' ys) :
    Calls Try.prog 44 #[.slice A xs.length c, .slice A' ys.length c'] w fun e w' => e = .returned (.bool (eq_L xs ys)) ∧ Below w.heap.size w w' := by
  have hlen := h.len
  have hlen' := h'.len
  unfold eq_L
  by_cases hne : xs.length = ys.length
  · have hne' : ((xs.length : Int) != (ys.length : Int)) = false := by simp [hne]
    have HE := Lib.hid hne; clear hne
    have H := Lib.hid h; clear h
    have H' := Lib.hid h'; clear h'
    go_enter Try.func44, Try.ntmps44
    go_wp2
    clear hne'
    go_loopw [5] (fun s5 wr => ∃ k : Nat, k ≤ xs.length ∧ s5 = .int .i64 k ∧ Hid (Below w.heap.size w wr) ∧ Hid (∀ j (h1 : j < xs.length) (h2 : j < ys.length), j < k → eq_i xs[j] ys[j] = true)) (fun s5 _ => xs.length - (intOf s5).toNat)
    case atStart => exact ⟨0, Nat.zero_le _, rfl, Below.refl _ _, fun j _ _ h => absurd h (Nat.not_lt_zero _)⟩
    case round =>
      obtain ⟨k, hk, rfl, HL, HN⟩ := hrel
      by_cases hlt : k < xs.length
      · have hltz : (k : Int) < (xs.length : Int) := by omega
        have hlt' : k < ys.length := by have := HE.out; omega
        have hltz' : (k : Int) < (ys.length : Int) := by omega
        obtain ⟨bp, offp, esp, rfl, hbp, hR, hc⟩ := H.out.at1 rfl hlt
        obtain ⟨rfl, gp⟩ := hR
        have dp0 : wr.cell? ⟨bp, offp + k, none⟩ = some (.int .i64 xs[k]) := (below_olds HL.out _ hbp).trans (hc _ rfl)
        clear hc gp
        try clear hR
        obtain ⟨bq, offq, esq, rfl, hbq, hR, hc⟩ := H'.out.at1 rfl hlt'
        obtain ⟨rfl, gq⟩ := hR
        have dq0 : wr.cell? ⟨bq, offq + k, none⟩ = some (.int .i64 ys[k]) := (below_olds HL.out _ hbq).trans (hc _ rfl)
        clear hc gq
        try clear hR
        have HQ0 : Hid (eq_i xs[k] ys[k] = false → eqL eq_i xs ys = false) := eqL_get xs ys k hlt hlt'
        have HQ1 : Hid (eq_i xs[k] ys[k] = true → ∀ j (h1 : j < xs.length) (h2 : j < ys.length), j < k + 1 → eq_i xs[j] ys[j] = true) := fun e j h1 h2 hj => by
          by_cases ej : j = k
          · subst ej; exact e
          · exact HN.out j h1 h2 (by omega)
        generalize xs[k] = x at dp0 HQ0 HQ1
        generalize ys[k] = y at dq0 HQ0 HQ1
        cases hq : eq_i x y
        · have hq' : (x != y) = true := by simp [eq_i] at hq; simp [hq]
          go_wp2_with fail
          go_quiet (fail)
          go_wp2
          go_ret
          exact ⟨by rw [HQ0.out hq]; rfl, below_drewN HL.out _⟩
        · have hq' : (x != y) = false := by simp [eq_i] at hq; simp [hq]
          go_wp2_with fail
          go_quiet (fail)
          go_wp2
          go_roundw
          case rel => exact ⟨k + 1, by omega, by go_num, below_drewN HL.out _, HQ1.out hq⟩
          case measure => simp [intOf]; omega
      · have hltz : ¬ (k : Int) < (xs.length : Int) := by omega
        obtain rfl : k = xs.length := by omega
        go_wp2
        go_ret
        exact ⟨by rw [eqL_all xs ys HE.out fun j h1 h2 => HN.out j h1 h2 h1]; rfl, HL.out⟩
  · have hne' : ((xs.length : Int) != (ys.length : Int)) = true := by simp; omega
    rw [eqL_len xs ys hne]
    clear h h' hne
    go_enter Try.func44, Try.ntmps44
    go_wp2
    go_ret
    exact ⟨rfl, Below.refl _ _⟩

set_option maxHeartbeats 1000000 in
theorem eq_Instr_c (es es' : List Value) (x y : tInstr) (w : World) (h : eInstr.R w (Old w) es x) (h' : eInstr.R w (Old w) es' y) :
    Calls Try.prog 101 #[.agg es.toArray, .agg es'.toArray] w fun e w' => e = .returned (.bool (eq_Instr x y)) ∧ Below w.heap.size w w' := by
  obtain ⟨rfl, gx0, gx1, gx2, gx3⟩ := shape_Instr h
  obtain ⟨rfl, gy0, gy1, gy2, gy3⟩ := shape_Instr h'
  have HB0 := Lib.hid (((Below.refl w.heap.size w).alloc (Nat.le_refl _) (.cells #[.int .i64 x.1, .int .i64 x.2.1, .int .i64 x.2.2.1, .int .i64 x.2.2.2] 130)).alloc (by simp) (.cells #[.int .i64 y.1, .int .i64 y.2.1, .int .i64 y.2.2.1, .int .i64 y.2.2.2] 130))
  clear gx0 gy0 gx1 gy1 gx2 gy2 gx3 gy3
  cases t0 : eq_i x.1 y.1
  · rw [show eq_Instr x y = false from by unfold eq_Instr; simp [t0]]
    have t0' : (x.1 != y.1) = true := by simp only [eq_i] at t0; simp [bne, t0]
    go_enter Try.func101, Try.ntmps101
    go_wp2
    go_ret
    exact ⟨rfl, HB0.out⟩
  have t0' : (x.1 != y.1) = false := by simp only [eq_i] at t0; simp [bne, t0]
  cases t1 : eq_i x.2.1 y.2.1
  · rw [show eq_Instr x y = false from by unfold eq_Instr; simp [t0, t1]]
    have t1' : (x.2.1 != y.2.1) = true := by simp only [eq_i] at t1; simp [bne, t1]
    go_enter Try.func101, Try.ntmps101
    go_wp2
    go_ret
    exact ⟨rfl, HB0.out⟩
  have t1' : (x.2.1 != y.2.1) = false := by simp only [eq_i] at t1; simp [bne, t1]
  cases t2 : eq_i x.2.2.1 y.2.2.1
  · rw [show eq_Instr x y = false from by unfold eq_Instr; simp [t0, t1, t2]]
    have t2' : (x.2.2.1 != y.2.2.1) = true := by simp only [eq_i] at t2; simp [bne, t2]
    go_enter Try.func101, Try.ntmps101
    go_wp2
    go_ret
    exact ⟨rfl, HB0.out⟩
  have t2' : (x.2.2.1 != y.2.2.1) = false := by simp only [eq_i] at t2; simp [bne, t2]
  cases t3 : eq_i x.2.2.2 y.2.2.2
  · rw [show eq_Instr x y = false from by unfold eq_Instr; simp [t0, t1, t2, t3]]
    have t3' : (x.2.2.2 != y.2.2.2) = true := by simp only [eq_i] at t3; simp [bne, t3]
    go_enter Try.func101, Try.ntmps101
    go_wp2
    go_ret
    exact ⟨rfl, HB0.out⟩
  have t3' : (x.2.2.2 != y.2.2.2) = false := by simp only [eq_i] at t3; simp [bne, t3]
  rw [show eq_Instr x y = true from by unfold eq_Instr; simp [t0, t1, t2, t3]]
  go_enter Try.func101, Try.ntmps101
  go_wp2
  go_ret
  exact ⟨rfl, HB0.out⟩

set_option maxRecDepth 100000 in
set_option maxHeartbeats 1000000 in
theorem eq_SInstr_c (A A' : Option Addr) (c c' : Nat) (xs ys : List tInstr) (w : World) (h : Sl eInstr w (Old w) A c xs) (h' : Sl eInstr w (Old w) A' c' ys) :
    Calls Try.prog 38 #[.slice A xs.length c, .slice A' ys.length c'] w fun e w' => e = .returned (.bool (eq_SInstr xs ys)) ∧ Below w.heap.size w w' := by
  have hlen := h.len
  have hlen' := h'.len
  unfold eq_SInstr
  by_cases hne : xs.length = ys.length
  · have hne' : ((xs.length : Int) != (ys.length : Int)) = false := by simp [hne]
    have HE := Lib.hid hne; clear hne
    have H := Lib.hid h; clear h
    have H' := Lib.hid h'; clear h'
    go_enter Try.func38, Try.ntmps38
    go_wp2
    clear hne'
    go_loopw [5] (fun s5 wr => ∃ k : Nat, k ≤ xs.length ∧ s5 = .int .i64 k ∧ Hid (Below w.heap.size w wr) ∧ Hid (∀ j (h1 : j < xs.length) (h2 : j < ys.length), j < k → eq_Instr xs[j] ys[j] = true)) (fun s5 _ => xs.length - (intOf s5).toNat)
    case atStart => exact ⟨0, Nat.zero_le _, rfl, Below.refl _ _, fun j _ _ h => absurd h (Nat.not_lt_zero _)⟩
    case round =>
      obtain ⟨k, hk, rfl, HL, HN⟩ := hrel
      by_cases hlt : k < xs.length
      · have hltz : (k : Int) < (xs.length : Int) := by omega
        have hlt' : k < ys.length := by have := HE.out; omega
        have hltz' : (k : Int) < (ys.length : Int) := by omega
        obtain ⟨bp, offp, esp, rfl, hbp, hR, hc⟩ := H.out.at hlt
        have HRp := Lib.hid (eInstr.on hR HL.out)
        obtain ⟨rfl, gp0, gp1, gp2, gp3⟩ := shape_Instr hR
        have dp0 : wr.cell? ⟨bp, offp + k * 4, none⟩ = some (.int .i64 xs[k].1) := (below_olds HL.out _ hbp).trans (hc 0 _ rfl)
        have dp1 : wr.cell? ⟨bp, offp + k * 4 + 1, none⟩ = some (.int .i64 xs[k].2.1) := (below_olds HL.out _ hbp).trans (hc 1 _ rfl)
        have dp2 : wr.cell? ⟨bp, offp + k * 4 + 2, none⟩ = some (.int .i64 xs[k].2.2.1) := (below_olds HL.out _ hbp).trans (hc 2 _ rfl)
        have dp3 : wr.cell? ⟨bp, offp + k * 4 + 3, none⟩ = some (.int .i64 xs[k].2.2.2) := (below_olds HL.out _ hbp).trans (hc 3 _ rfl)
        clear hc gp0 gp1 gp2 gp3
        try clear hR
        obtain ⟨bq, offq, esq, rfl, hbq, hR, hc⟩ := H'.out.at hlt'
        have HRq := Lib.hid (eInstr.on hR HL.out)
        obtain ⟨rfl, gq0, gq1, gq2, gq3⟩ := shape_Instr hR
        have dq0 : wr.cell? ⟨bq, offq + k * 4, none⟩ = some (.int .i64 ys[k].1) := (below_olds HL.out _ hbq).trans (hc 0 _ rfl)
        have dq1 : wr.cell? ⟨bq, offq + k * 4 + 1, none⟩ = some (.int .i64 ys[k].2.1) := (below_olds HL.out _ hbq).trans (hc 1 _ rfl)
        have dq2 : wr.cell? ⟨bq, offq + k * 4 + 2, none⟩ = some (.int .i64 ys[k].2.2.1) := (below_olds HL.out _ hbq).trans (hc 2 _ rfl)
        have dq3 : wr.cell? ⟨bq, offq + k * 4 + 3, none⟩ = some (.int .i64 ys[k].2.2.2) := (below_olds HL.out _ hbq).trans (hc 3 _ rfl)
        clear hc gq0 gq1 gq2 gq3
        try clear hR
        have HQ0 : Hid (eq_Instr xs[k] ys[k] = false → eqL eq_Instr xs ys = false) := eqL_get xs ys k hlt hlt'
        have HQ1 : Hid (eq_Instr xs[k] ys[k] = true → ∀ j (h1 : j < xs.length) (h2 : j < ys.length), j < k + 1 → eq_Instr xs[j] ys[j] = true) := fun e j h1 h2 hj => by
          by_cases ej : j = k
          · subst ej; exact e
          · exact HN.out j h1 h2 (by omega)
        generalize xs[k] = x at dp0 dp1 dp2 dp3 HRp HQ0 HQ1
        generalize ys[k] = y at dq0 dq1 dq2 dq3 HRq HQ0 HQ1
        go_wp2_with fail
        go_still_tail 8, (by kernel_rfl)
        cases hq : eq_Instr x y
        · go_wp2_with fail
          refine (eq_Instr_c _ _ x y _ (eInstr.on HRp.out (Below.refl _ _).drew) (eInstr.on HRq.out (Below.refl _ _).drew)).mono ?_
          rintro e w2 ⟨rfl, hb2⟩
          rw [hq]
          go_wp2
          go_ret
          exact ⟨by rw [HQ0.out hq]; rfl, HL.out.drew.trans (hb2.mono HL.out.size)⟩
        · go_wp2_with fail
          refine (eq_Instr_c _ _ x y _ (eInstr.on HRp.out (Below.refl _ _).drew) (eInstr.on HRq.out (Below.refl _ _).drew)).mono ?_
          rintro e w2 ⟨rfl, hb2⟩
          rw [hq]
          go_wp2
          go_roundw
          case rel => exact ⟨k + 1, by omega, by go_num, HL.out.drew.trans (hb2.mono HL.out.size), HQ1.out hq⟩
          case measure => simp [intOf]; omega
      · have hltz : ¬ (k : Int) < (xs.length : Int) := by omega
        obtain rfl : k = xs.length := by omega
        go_wp2
        go_ret
        exact ⟨by rw [eqL_all xs ys HE.out fun j h1 h2 => HN.out j h1 h2 h1]; rfl, HL.out⟩
  · have hne' : ((xs.length : Int) != (ys.length : Int)) = true := by simp; omega
    rw [eqL_len xs ys hne]
    clear h h' hne
    go_enter Try.func38, Try.ntmps38
    go_wp2
    go_ret
    exact ⟨rfl, Below.refl _ _⟩

set_option maxHeartbeats 1000000 in
theorem eq_Store_c (es es' : List Value) (x y : tStore) (w : World) (h : eStore.R w (Old w) es x) (h' : eStore.R w (Old w) es' y) :
    Calls Try.prog 39 #[.agg es.toArray, .agg es'.toArray] w fun e w' => e = .returned (.bool (eq_Store x y)) ∧ Below w.heap.size w w' := by
  obtain ⟨Ax1, cx1, rfl, gx0, gx1⟩ := shape_Store h
  obtain ⟨Ay1, cy1, rfl, gy0, gy1⟩ := shape_Store h'
  have HB0 := Lib.hid (((Below.refl w.heap.size w).alloc (Nat.le_refl _) (.cells #[.int .i64 x.1, .slice Ax1 x.2.length cx1] 59)).alloc (by simp) (.cells #[.int .i64 y.1, .slice Ay1 y.2.length cy1] 59))
  have HX1 := Lib.hid (gx1.on HB0.out); clear gx1
  have HY1 := Lib.hid (gy1.on HB0.out); clear gy1
  clear gx0 gy0
  cases t0 : eq_i x.1 y.1
  · rw [show eq_Store x y = false from by unfold eq_Store; simp [t0]]
    have t0' : (x.1 != y.1) = true := by simp only [eq_i] at t0; simp [bne, t0]
    go_enter Try.func39, Try.ntmps39
    go_wp2
    go_ret
    exact ⟨rfl, HB0.out⟩
  have t0' : (x.1 != y.1) = false := by simp only [eq_i] at t0; simp [bne, t0]
  cases t1 : eq_L x.2 y.2
  · rw [show eq_Store x y = false from by unfold eq_Store; simp [t0, t1]]
    go_enter Try.func39, Try.ntmps39
    go_wp2_with fail
    refine (eq_L_c _ _ _ _ x.2 y.2 _ HX1.out HY1.out).mono ?_
    rintro e w1 ⟨rfl, hb⟩
    rw [t1]
    have HB1 := Lib.hid hb
    clear hb
    obtain ⟨hc, hf⟩ := bcell HB1.out
    go_wp2
    go_ret
    exact ⟨rfl, below_trans HB0.out HB1.out⟩
  rw [show eq_Store x y = true from by unfold eq_Store; simp [t0, t1]]
  go_enter Try.func39, Try.ntmps39
  go_wp2_with fail
  refine (eq_L_c _ _ _ _ x.2 y.2 _ HX1.out HY1.out).mono ?_
  rintro e w1 ⟨rfl, hb⟩
  rw [t1]
  have HB1 := Lib.hid hb
  clear hb
  obtain ⟨hc, hf⟩ := bcell HB1.out
  go_wp2
  go_ret
  exact ⟨rfl, below_trans HB0.out HB1.out⟩

theorem info_impl_Int64 : (Try.prog.info? 2).map (fun i => (i.zero, i.size, i.bytes)) = some (some (.int .i64 0), 1, 8) := by kernel_rfl

set_option maxHeartbeats 1000000 in
theorem to_Int64S (A : Option Addr) (c : Nat) (xs : List Int) (w : World) (h : Sl eInt w (Old w) A c xs) (hsm : cost_L xs ≤ 1048576) :
    Calls Try.prog 52 #[.slice A xs.length c] w fun e w' => ∃ A' c', e = .returned (.slice A' xs.length c') ∧ So eInt w' (Fr w w') A' c' xs ∧ Below w.heap.size w w' := by
  obtain ⟨i0, hi0, hz0, hz1, hz2⟩ := info_parts info_impl_Int64
  have hlen := h.len
  have hsl : xs.length ≤ 1048576 := by exact hsm
  have HCO := Lib.hid hsm; clear hsm
  have H := Lib.hid h; clear h
  go_enter Try.func52, Try.ntmps52
  go_wp2_with (at_make; refine wpList_make_full _ rfl _ _ 23 rfl w.heap.size 2 i0 _ 1 Try.underlying23 hi0 hz0 hz1 _ _ _ _ xs.length rfl rfl rfl rfl (by rw [hz2]; omega) (by unfold maxLen; omega) (Nat.le_refl _) ?_)
  intro w1 hown hgrow
  obtain ⟨cur, hB, hs, ht, hn1, hn2⟩ := Blk.of_own hown
  have HB := Lib.hid hB; clear hB
  have HS : Hid (cur.size = xs.length) := by show _ = _; omega
  have hbel : Below w.heap.size w w1 := (Below.refl _ _).grown hgrow (Nat.le_refl _) (by simp)
  have HL := Lib.hid hbel; clear hbel
  clear hs ht hn1 hn2 hgrow hown hi0 hz0 hz1 hz2
  go_wp2_with fail
  go_loopw [4] (fun s4 wr => ∃ (k : Nat) (cur : Array Value), k ≤ xs.length ∧ s4 = .int .i64 k ∧ Hid (Below w.heap.size w wr) ∧ Hid (Blk wr w.heap.size 2 cur) ∧ Hid (cur.size = xs.length) ∧ Hid (Filled eInt wr w.heap.size (fun b => w.heap.size ≤ b) cur k xs)) (fun s4 _ => xs.length - (intOf s4).toNat)
  case atStart => exact ⟨0, cur, Nat.zero_le _, rfl, HL, HB, HS, Filled.zero⟩
  case round =>
    clear HB HS HL
    obtain ⟨k, cur, hk, rfl, HL, HB, HS, HF⟩ := hrel
    by_cases hlt : k < xs.length
    · have hltz : (k : Int) < (xs.length : Int) := by omega
      obtain ⟨b, off, es, rfl, hb, hR, hc⟩ := H.out.at1 rfl hlt
      have HX : Hid (xs[k]? = some xs[k]) := List.getElem?_eq_getElem hlt
      obtain ⟨rfl, gq⟩ := hR
      have d0 : wr.cell? ⟨b, off + k, none⟩ = some (.int .i64 xs[k]) := (below_olds HL.out _ hb).trans (hc _ rfl)
      have HR := Lib.hid gq
      clear hc gq
      try clear hR
      obtain ⟨v0, hv0⟩ : ∃ v, cur[k]? = some v := get_some (by have := HS.out; omega)
      have HV0 := Lib.hid hv0; clear hv0
      generalize xs[k] = y at d0 HX HR
      have e0 : wr.cell? ⟨w.heap.size, k, none⟩ = some v0 := (HB.out.cell _).trans HV0.out
      have f0 := HB.out.frozen (k)
      go_wp2
      go_roundw
      case rel =>
        exact ⟨k + 1, setAll cur k [_], by omega, by go_num, HL.out.setCell (Nat.le_refl _) _, HB.out.set _ _, (size_setAll _ _ _).trans HS.out, by
          have := (HF.out.set k (.int .i64 y)).step (w' := wr.setCell ⟨w.heap.size, k, none⟩ (.int .i64 y)) (T0 := fun _ => False) (es := [.int .i64 y]) (fun _ _ _ => rfl) (Nat.le_refl _) HX.out ⟨rfl, HR.out⟩ (fun _ h => h.elim) (by have := HS.out; show (k + 1) * 1 ≤ _; omega)
          rw [show k * eInt.size = k from Nat.mul_one k] at this
          exact this⟩
      case measure => simp [intOf]; omega
    · have hltz : ¬ (k : Int) < (xs.length : Int) := by omega
      obtain rfl : k = xs.length := by omega
      go_wp2
      go_ret
      exact ⟨_, _, rfl, HF.out.soFr HB.out (Nat.le_refl _) (by unfold maxLen; omega), HL.out⟩

theorem info_impl_Instr : (Try.prog.info? 130).map (fun i => (i.zero, i.size, i.bytes)) = some (some (.agg #[.int .i64 0, .int .i64 0, .int .i64 0, .int .i64 0]), 4, 32) := by kernel_rfl

theorem to_Instr (es : List Value) (x : tInstr) (w : World) (h : eInstr.R w (Old w) es x) :
    Calls Try.prog 98 #[.agg es.toArray] w fun e w' => ∃ es', e = .returned (.agg es'.toArray) ∧ eInstr.O w' (Fr w w') es' x ∧ Below w.heap.size w w' := by
  obtain ⟨rfl, g0, g1, g2, g3⟩ := shape_Instr h
  go_enter Try.func98, Try.ntmps98
  go_wp2
  go_returns
  exact ⟨[.int .i64 x.1, .int .i64 x.2.1, .int .i64 x.2.2.1, .int .i64 x.2.2.2], rfl, (oPrI g0 (oPrI g1 (oPrI g2 (oI g3)))), by go_grown⟩

set_option maxHeartbeats 1000000 in
theorem to_InstrS (A : Option Addr) (c : Nat) (xs : List tInstr) (w : World) (h : Sl eInstr w (Old w) A c xs) (hsm : cost_SInstr xs ≤ 1048576) :
    Calls Try.prog 35 #[.slice A xs.length c] w fun e w' => ∃ A' c', e = .returned (.slice A' xs.length c') ∧ So eInstr w' (Fr w w') A' c' xs ∧ Below w.heap.size w w' := by
  obtain ⟨i0, hi0, hz0, hz1, hz2⟩ := info_parts info_impl_Instr
  have hlen := h.len
  have hsl : xs.length ≤ 1048576 := by exact hsm
  have HCO := Lib.hid hsm; clear hsm
  have H := Lib.hid h; clear h
  go_enter Try.func35, Try.ntmps35
  go_wp2_with (at_make; refine wpList_make_full _ rfl _ _ 57 rfl w.heap.size 130 i0 _ 4 Try.underlying57 hi0 hz0 hz1 _ _ _ _ xs.length rfl rfl rfl rfl (by rw [hz2]; omega) (by unfold maxLen; omega) (Nat.le_refl _) ?_)
  intro w1 hown hgrow
  obtain ⟨cur, hB, hs, ht, hn1, hn2⟩ := Blk.of_own hown
  have HB := Lib.hid hB; clear hB
  have HS : Hid (cur.size = xs.length * 4) := by show _ = _; omega
  have hbel : Below w.heap.size w w1 := (Below.refl _ _).grown hgrow (Nat.le_refl _) (by simp)
  have HL := Lib.hid hbel; clear hbel
  clear hs ht hn1 hn2 hgrow hown hi0 hz0 hz1 hz2
  go_wp2_with fail
  go_loopw [4] (fun s4 wr => ∃ (k : Nat) (cur : Array Value), k ≤ xs.length ∧ s4 = .int .i64 k ∧ Hid (Below w.heap.size w wr) ∧ Hid (Blk wr w.heap.size 130 cur) ∧ Hid (cur.size = xs.length * 4) ∧ Hid (Filled eInstr wr w.heap.size (fun b => w.heap.size ≤ b) cur k xs)) (fun s4 _ => xs.length - (intOf s4).toNat)
  case atStart => exact ⟨0, cur, Nat.zero_le _, rfl, HL, HB, HS, Filled.zero⟩
  case round =>
    clear HB HS HL
    obtain ⟨k, cur, hk, rfl, HL, HB, HS, HF⟩ := hrel
    by_cases hlt : k < xs.length
    · have hltz : (k : Int) < (xs.length : Int) := by omega
      obtain ⟨b, off, es, rfl, hb, hR, hc⟩ := H.out.at hlt
      have HX : Hid (xs[k]? = some xs[k]) := List.getElem?_eq_getElem hlt
      have HR := Lib.hid (eInstr.on hR HL.out)
      obtain ⟨rfl, gq0, gq1, gq2, gq3⟩ := shape_Instr hR
      have d0 : wr.cell? ⟨b, off + k * 4, none⟩ = some (.int .i64 xs[k].1) := (below_olds HL.out _ hb).trans (hc 0 _ rfl)
      have d1 : wr.cell? ⟨b, off + k * 4 + 1, none⟩ = some (.int .i64 xs[k].2.1) := (below_olds HL.out _ hb).trans (hc 1 _ rfl)
      have d2 : wr.cell? ⟨b, off + k * 4 + 2, none⟩ = some (.int .i64 xs[k].2.2.1) := (below_olds HL.out _ hb).trans (hc 2 _ rfl)
      have d3 : wr.cell? ⟨b, off + k * 4 + 3, none⟩ = some (.int .i64 xs[k].2.2.2) := (below_olds HL.out _ hb).trans (hc 3 _ rfl)
      clear hc gq0 gq1 gq2 gq3
      try clear hR
      obtain ⟨v0, hv0⟩ : ∃ v, cur[k * 4]? = some v := get_some (by have := HS.out; omega)
      obtain ⟨v1, hv1⟩ : ∃ v, cur[k * 4 + 1]? = some v := get_some (by have := HS.out; omega)
      obtain ⟨v2, hv2⟩ : ∃ v, cur[k * 4 + 2]? = some v := get_some (by have := HS.out; omega)
      obtain ⟨v3, hv3⟩ : ∃ v, cur[k * 4 + 3]? = some v := get_some (by have := HS.out; omega)
      have HV0 := Lib.hid hv0; clear hv0
      have HV1 := Lib.hid hv1; clear hv1
      have HV2 := Lib.hid hv2; clear hv2
      have HV3 := Lib.hid hv3; clear hv3
      generalize xs[k] = y at d0 d1 d2 d3 HX HR
      go_wp2_with fail
      refine (to_Instr _ y _ HR.out).mono ?_
      rintro e w2 ⟨es2, rfl, ho2, hb2⟩
      have hR2 := eInstr.read ho2
      have HO2 := Lib.hid ho2; clear ho2
      obtain ⟨rfl, gr0, gr1, gr2, gr3⟩ := shape_Instr hR2
      clear gr0 gr1 gr2 gr3
      try clear hR2
      have hB2 := HB.out.on hb2
      have e0 : w2.cell? ⟨w.heap.size, k * 4, none⟩ = some v0 := (hB2.cell _).trans HV0.out
      have e1 : w2.cell? ⟨w.heap.size, k * 4 + 1, none⟩ = some v1 := (hB2.cell _).trans HV1.out
      have e2 : w2.cell? ⟨w.heap.size, k * 4 + 2, none⟩ = some v2 := (hB2.cell _).trans HV2.out
      have e3 : w2.cell? ⟨w.heap.size, k * 4 + 3, none⟩ = some v3 := (hB2.cell _).trans HV3.out
      have f0 := hB2.frozen (k * 4)
      have f1 := hB2.frozen (k * 4 + 1)
      have f2 := hB2.frozen (k * 4 + 2)
      have f3 := hB2.frozen (k * 4 + 3)
      have HB2 := Lib.hid hB2; clear hB2
      have HL2 := Lib.hid hb2; clear hb2
      go_wp2
      go_roundw
      case rel =>
        have hL := HL.out
        have hL2 := HL2.out
        have hbs : ∀ b, b ≠ w.heap.size → ∀ W : World, (∀ b, b ≠ w.heap.size → W.heap[b]? = w2.heap[b]?) → W.heap[b]? = w2.heap[b]? := fun b hb W h => h b hb
        have hW : ∀ b, b ≠ w.heap.size → ((((w2.setCell ⟨w.heap.size, k * 4, none⟩ (.int .i64 y.1)).setCell ⟨w.heap.size, k * 4 + 1, none⟩ (.int .i64 y.2.1)).setCell ⟨w.heap.size, k * 4 + 2, none⟩ (.int .i64 y.2.2.1)).setCell ⟨w.heap.size, k * 4 + 3, none⟩ (.int .i64 y.2.2.2)).heap[b]? = w2.heap[b]? := fun b hb => by
          rw [Below.heap_setCell _ _ _ _ (by exact hb), Below.heap_setCell _ _ _ _ (by exact hb), Below.heap_setCell _ _ _ _ (by exact hb), Below.heap_setCell _ _ _ _ (by exact hb)]
        have hsz : ((((w2.setCell ⟨w.heap.size, k * 4, none⟩ (.int .i64 y.1)).setCell ⟨w.heap.size, k * 4 + 1, none⟩ (.int .i64 y.2.1)).setCell ⟨w.heap.size, k * 4 + 2, none⟩ (.int .i64 y.2.2.1)).setCell ⟨w.heap.size, k * 4 + 3, none⟩ (.int .i64 y.2.2.2)).heap.size = w2.heap.size := by simp [World.setCell]
        refine ⟨k + 1, setAll cur (k * 4) [.int .i64 y.1, .int .i64 y.2.1, .int .i64 y.2.2.1, .int .i64 y.2.2.2], by omega, by go_num, (((((hL.trans (hL2.mono hL.size)).setCell (Nat.le_refl _) _).setCell (Nat.le_refl _) _).setCell (Nat.le_refl _) _).setCell (Nat.le_refl _) _), ((((HB2.out.set _ _).set _ _).set _ _).set _ _), (size_setAll _ _ _).trans HS.out, ?_⟩
        have hstep := (HF.out).step (w' := (((w2.setCell ⟨w.heap.size, k * 4, none⟩ (.int .i64 y.1)).setCell ⟨w.heap.size, k * 4 + 1, none⟩ (.int .i64 y.2.1)).setCell ⟨w.heap.size, k * 4 + 2, none⟩ (.int .i64 y.2.2.1)).setCell ⟨w.heap.size, k * 4 + 3, none⟩ (.int .i64 y.2.2.2)) (T0 := Fr wr w2) (es := [.int .i64 y.1, .int .i64 y.2.1, .int .i64 y.2.2.1, .int .i64 y.2.2.2]) (fun b hb hlt => (hW b hb).trans (hL2.block b hlt)) (by rw [hsz]; exact hL2.size) HX.out
          (eInstr.okeep HO2.out fun b hb => hW b (fun e => by have := HB.out.lt; have := hb.1; omega)) (fun b hb => ⟨Nat.le_trans hL.size hb.1, fun e => by have := HB.out.lt; have := hb.1; omega, hb.1, by rw [hsz]; exact hb.2⟩) (by have := HS.out; show (k + 1) * 4 ≤ _; omega)
        exact hstep
      case measure => simp [intOf]; omega
    · have hltz : ¬ (k : Int) < (xs.length : Int) := by omega
      obtain rfl : k = xs.length := by omega
      go_wp2
      go_ret
      exact ⟨_, _, rfl, HF.out.soFr HB.out (Nat.le_refl _) (by unfold maxLen; omega), HL.out⟩

set_option maxRecDepth 100000 in
set_option maxHeartbeats 2000000 in
theorem to_Store (es : List Value) (x : tStore) (w : World) (h : eStore.R w (Old w) es x) (hcost : cost_Store x ≤ 1048576) :
    Calls Try.prog 36 #[.agg es.toArray] w fun e w' => ∃ es', e = .returned (.agg es'.toArray) ∧ eStore.O w' (Fr w w') es' x ∧ Below w.heap.size w w' := by
  obtain ⟨A1, c1, rfl, g0, g1⟩ := shape_Store h
  have HC : Hid (cost_Store x ≤ 1048576) := hcost
  unfold cost_Store at hcost
  have HB0 : Hid (Below w.heap.size w (((w.alloc (.cells #[.int .i64 x.1, .slice A1 x.2.length c1] 53)).alloc (.cells #[.int .i64 0, .slice none 0 0] 59)).alloc (.cells #[.int .i64 x.1, .slice none 0 0] 59))) := by show Below _ _ _; go_grown
  have hc1 : cost_L x.2 ≤ 1048576 := by omega
  have HC1 := Lib.hid hc1; clear hc1
  have K1 := Lib.hid g1; clear g1
  have G0 := Lib.hid g0; clear g0
  clear hcost h
  go_enter Try.func36, Try.ntmps36
  go_wp2_with fail
  refine (to_Int64S _ _ x.2 _ (by exact K1.out.on HB0.out) HC1.out).mono ?_
  rintro e w1 ⟨A1', c1', rfl, hs, hb⟩
  have HS1 := Lib.hid hs; clear hs
  have BL1 := Lib.hid (HB0.out.trans (hb.mono HB0.out.size))
  have HBW1 := Lib.hid hb; clear hb
  have HX := Lib.hid ((((Blk.new w 53 #[.int .i64 x.1, .slice A1 x.2.length c1]).alloc _).alloc _).on HBW1.out)
  have HR := Lib.hid (((Blk.new1 w _ 59 #[.int .i64 0, .slice none 0 0]).alloc _).on HBW1.out)
  have HO : Hid (Blk w1 (w.heap.size + 1 + 1) 59 #[.int .i64 x.1, .slice none 0 0]) := (Blk.new2 w _ _ 59 #[.int .i64 x.1, .slice none 0 0]).on HBW1.out
  have x0 : w1.cell? ⟨w.heap.size, 0, none⟩ = some (.int .i64 x.1) := HX.out.cell 0
  have o0 : w1.cell? ⟨w.heap.size + 1 + 1, 0, none⟩ = some (.int .i64 x.1) := HO.out.cell 0
  have r0 : w1.cell? ⟨w.heap.size + 1, 0, none⟩ = some (.int .i64 0) := HR.out.cell 0
  have p0 : w1.frozen? ⟨w.heap.size + 1 + 1, 0, none⟩ = false := HO.out.frozen 0
  have q0 : w1.frozen? ⟨w.heap.size + 1, 0, none⟩ = false := HR.out.frozen 0
  have x1 : w1.cell? ⟨w.heap.size, 1, none⟩ = some (.slice A1 x.2.length c1) := HX.out.cell 1
  have o1 : w1.cell? ⟨w.heap.size + 1 + 1, 1, none⟩ = some (.slice none 0 0) := HO.out.cell 1
  have r1 : w1.cell? ⟨w.heap.size + 1, 1, none⟩ = some (.slice none 0 0) := HR.out.cell 1
  have p1 : w1.frozen? ⟨w.heap.size + 1 + 1, 1, none⟩ = false := HO.out.frozen 1
  have q1 : w1.frozen? ⟨w.heap.size + 1, 1, none⟩ = false := HR.out.frozen 1
  go_wp2
  have hE : Blk (((w1.setCell ⟨w.heap.size + 1 + 1, 1, none⟩ (.slice A1' x.2.length c1')).setCell ⟨w.heap.size + 1, 0, none⟩ (.int .i64 x.1)).setCell ⟨w.heap.size + 1, 1, none⟩ (.slice A1' x.2.length c1')) (w.heap.size + 1) 59 #[.int .i64 x.1, .slice A1' x.2.length c1'] := (((HR.out.far (p := ⟨w.heap.size + 1 + 1, 1, none⟩) (by show w.heap.size + 1 ≠ w.heap.size + 1 + 1; omega) _).set _ _).set _ _)
  have e0 : (((w1.setCell ⟨w.heap.size + 1 + 1, 1, none⟩ (.slice A1' x.2.length c1')).setCell ⟨w.heap.size + 1, 0, none⟩ (.int .i64 x.1)).setCell ⟨w.heap.size + 1, 1, none⟩ (.slice A1' x.2.length c1')).cell? ⟨w.heap.size + 1, 0, none⟩ = some (.int .i64 x.1) := hE.cell 0
  have e1 : (((w1.setCell ⟨w.heap.size + 1 + 1, 1, none⟩ (.slice A1' x.2.length c1')).setCell ⟨w.heap.size + 1, 0, none⟩ (.int .i64 x.1)).setCell ⟨w.heap.size + 1, 1, none⟩ (.slice A1' x.2.length c1')).cell? ⟨w.heap.size + 1, 1, none⟩ = some (.slice A1' x.2.length c1') := hE.cell 1
  refine bodyPost_ret (v := .agg #[.int .i64 x.1, .slice A1' x.2.length c1']) (by simp [results, Try.results36, go_sem, e0, e1]) rfl ?_
  have t1 : w.heap.size + 3 ≤ w1.heap.size := by have h1 := HBW1.out.size; simp only [World.size_alloc] at h1; omega
  refine ⟨[.int .i64 x.1, .slice A1' x.2.length c1'], rfl, ?_, ?_⟩
  · have sE1 : So eInt (((w1.setCell ⟨w.heap.size + 1 + 1, 1, none⟩ (.slice A1' x.2.length c1')).setCell ⟨w.heap.size + 1, 0, none⟩ (.int .i64 x.1)).setCell ⟨w.heap.size + 1, 1, none⟩ (.slice A1' x.2.length c1')) (Iv w.heap.size (((w1.setCell ⟨w.heap.size + 1 + 1, 1, none⟩ (.slice A1' x.2.length c1')).setCell ⟨w.heap.size + 1, 0, none⟩ (.int .i64 x.1)).setCell ⟨w.heap.size + 1, 1, none⟩ (.slice A1' x.2.length c1')).heap.size) _ _ x.2 := (HS1.out.keep (w' := (((w1.setCell ⟨w.heap.size + 1 + 1, 1, none⟩ (.slice A1' x.2.length c1')).setCell ⟨w.heap.size + 1, 0, none⟩ (.int .i64 x.1)).setCell ⟨w.heap.size + 1, 1, none⟩ (.slice A1' x.2.length c1'))) fun b hb => ((((Lat.refl (w.heap.size + 3) w1).set (p := ⟨w.heap.size + 1 + 1, 1, none⟩) (by show w.heap.size + 1 + 1 < _; omega)).set (p := ⟨w.heap.size + 1, 0, none⟩) (by show w.heap.size + 1 < _; omega)).set (p := ⟨w.heap.size + 1, 1, none⟩) (by show w.heap.size + 1 < _; omega)).block b (by have h1 := hb.1; simp only [World.size_alloc, World.size_setCell] at h1; omega) hb.2).more (Iv.mono (by simp only [World.size_alloc]; omega) (by simp only [World.size_setCell]; omega))
    exact (oPrI G0.out (oSl sE1))
  · exact (((BL1.out.setCell (p := ⟨w.heap.size + 1 + 1, 1, none⟩) (by show w.heap.size ≤ w.heap.size + 1 + 1; omega) _).setCell (p := ⟨w.heap.size + 1, 0, none⟩) (by show w.heap.size ≤ w.heap.size + 1; omega) _).setCell (p := ⟨w.heap.size + 1, 1, none⟩) (by show w.heap.size ≤ w.heap.size + 1; omega) _)

def isReg (r : Int) : Bool := withinB r 0 23

def validInstr (x : tInstr) (n : Int) : Bool :=
  isReg x.2.1 && withinB x.2.2.1 0 n && (if x.1 = 0 then x.2.2.2 == 0 else if x.1 = 1 then withinB x.2.2.2 0 n else false)

theorem impl_isRegister (r : Int) (w : World) : Calls Try.prog 176 #[.int .i64 r] w fun e w' => e = .returned (.bool (isReg r)) ∧ w = w' := by
  unfold isReg
  go_enter Try.func176, Try.ntmps176
  go_wp2_with (go_at_call 81; refine (impl_within _ _ _ _).mono ?_; rintro e w' ⟨rfl, rfl⟩)
  go_ret
  exact ⟨rfl, rfl⟩

theorem spec_l07Register (r : Int) (w : World) : Calls Try.prog 148 #[.int .i64 r] w fun e w' => e = .returned (.bool (isReg r)) ∧ w = w' := by
  unfold isReg
  go_enter Try.func148, Try.ntmps148
  go_wp2_with (go_at_call 79; refine (spec_l00In _ _ _ _).mono ?_; rintro e w' ⟨rfl, rfl⟩)
  go_ret
  exact ⟨rfl, rfl⟩

set_option maxHeartbeats 400000 in
theorem impl_validInstr (x : tInstr) (n : Int) (w : World) :
    Calls Try.prog 151 #[.agg #[.int .i64 x.1, .int .i64 x.2.1, .int .i64 x.2.2.1, .int .i64 x.2.2.2], .int .i64 n] w fun e w' => e = .returned (.bool (validInstr x n)) ∧ Below w.heap.size w w' := by
  obtain ⟨kd, r, t, el⟩ := x
  cases h1 : isReg r
  · rw [show validInstr (kd, r, t, el) n = false from by unfold validInstr; simp [h1]]
    go_enter Try.func151, Try.ntmps151
    go_wp2_with (first | (go_at_call 176; refine (impl_isRegister _ _).mono ?_; rintro e w' ⟨rfl, rfl⟩; rw [h1]) | (go_at_call 81; refine (impl_within _ _ _ _).mono ?_; rintro e w' ⟨rfl, rfl⟩; (try rw [h2])))
    go_ret
    exact ⟨rfl, by go_grown⟩
  cases h2 : withinB t 0 n
  · rw [show validInstr (kd, r, t, el) n = false from by unfold validInstr; simp [h1, h2]]
    go_enter Try.func151, Try.ntmps151
    go_wp2_with (first | (go_at_call 176; refine (impl_isRegister _ _).mono ?_; rintro e w' ⟨rfl, rfl⟩; rw [h1]) | (go_at_call 81; refine (impl_within _ _ _ _).mono ?_; rintro e w' ⟨rfl, rfl⟩; (try rw [h2])))
    go_ret
    exact ⟨rfl, by go_grown⟩
  by_cases k0 : kd = 0
  · have k0' : (kd == 0) = true := by simp [k0]
    rw [show validInstr (kd, r, t, el) n = (el == 0) from by unfold validInstr; simp [h1, h2, k0]]
    go_enter Try.func151, Try.ntmps151
    go_wp2_with (first | (go_at_call 176; refine (impl_isRegister _ _).mono ?_; rintro e w' ⟨rfl, rfl⟩; rw [h1]) | (go_at_call 81; refine (impl_within _ _ _ _).mono ?_; rintro e w' ⟨rfl, rfl⟩; (try rw [h2])))
    go_ret
    exact ⟨rfl, by go_grown⟩
  have k0' : (kd == 0) = false := by simp [k0]
  by_cases k1 : kd = 1
  · have k1' : (kd == 1) = true := by simp [k1]
    rw [show validInstr (kd, r, t, el) n = withinB el 0 n from by unfold validInstr; simp [h1, h2, k1]]
    go_enter Try.func151, Try.ntmps151
    go_wp2_with (first | (go_at_call 176; refine (impl_isRegister _ _).mono ?_; rintro e w' ⟨rfl, rfl⟩; rw [h1]) | (go_at_call 81; refine (impl_within _ _ _ _).mono ?_; rintro e w' ⟨rfl, rfl⟩; (try rw [h2])))
    go_ret
    exact ⟨rfl, by go_grown⟩
  have k1' : (kd == 1) = false := by simp [k1]
  rw [show validInstr (kd, r, t, el) n = false from by unfold validInstr; simp [h1, h2, k0, k1]]
  go_enter Try.func151, Try.ntmps151
  go_wp2_with (first | (go_at_call 176; refine (impl_isRegister _ _).mono ?_; rintro e w' ⟨rfl, rfl⟩; rw [h1]) | (go_at_call 81; refine (impl_within _ _ _ _).mono ?_; rintro e w' ⟨rfl, rfl⟩; (try rw [h2])))
  go_ret
  exact ⟨rfl, by go_grown⟩

theorem enters_ValidProgram1 : ∀ args w, (callFunc 150 args).run Try.prog w = .ok (.enter 150 args) w := enters_of Try.func150 (by kernel_rfl) rfl

theorem impl_ValidProgram1 (es : List Value) (x : tInstr) (w : World) (h : eInstr.R w (Old w) es x) (B : Nat) (A : Option Addr) (n c : Nat) (hB : w.cell? ⟨B, 0, none⟩ = some (.slice A n c)) :
    Calls Try.prog 150 #[.agg es.toArray, .pointer (some ⟨B, 0, none⟩)] w fun e w' => e = .returned (.bool (!validInstr x n)) ∧ Below w.heap.size w w' := by
  obtain ⟨rfl, _, _, _, _⟩ := shape_Instr h
  clear h
  have hlt : B < w.heap.size := World.block_lt_of_cell? w _ hB
  go_enter Try.func150, Try.ntmps150
  go_wp2_with fail
  go_region_held3 (fun w' => w'.cell? ⟨w.heap.size, 0, none⟩ = some (.int .i64 x.1) ∧ w'.cell? ⟨w.heap.size, 1, none⟩ = some (.int .i64 x.2.1) ∧ w'.cell? ⟨w.heap.size, 2, none⟩ = some (.int .i64 x.2.2.1) ∧ w'.cell? ⟨w.heap.size, 3, none⟩ = some (.int .i64 x.2.2.2) ∧ w'.cell? ⟨B, 0, none⟩ = some (.slice A n c)) (first | (simp [go_sem, World.cell?_alloc_past, hB, hlt]; done) | (obtain ⟨hc, hf⟩ := bcell hb; simp [hc, go_sem, World.cell?_alloc_past, hB, hlt, Nat.lt_succ_of_lt hlt]))
    (first
      | (go_at_call 152; refine (impl_size_Instr _ _ _ _).mono ?_; rintro e w' ⟨rfl, rfl⟩)
      | (go_at_call 151; refine (impl_validInstr x _ _).mono ?_; rintro e w' ⟨rfl, hb⟩))
  go_wp2
  go_ret
  exact ⟨rfl, below_trans ((Below.refl _ _).alloc (Nat.le_refl _) _).drew hb⟩

def validProg (p : List tInstr) : Bool := decide (p.length ≤ 400) && !p.any fun x => !validInstr x p.length

set_option maxHeartbeats 400000 in
theorem impl_ValidProgram (A : Option Addr) (c : Nat) (xs : List tInstr) (w : World) (h : Sl eInstr w (Old w) A c xs) :
    Calls Try.prog 99 #[.slice A xs.length c] w fun e w' => e = .returned (.bool (validProg xs)) ∧ Below w.heap.size w w' := by
  have hW : Below w.heap.size w (w.alloc (.cells #[.slice A xs.length c] 57)) := (Below.refl _ _).alloc (Nat.le_refl _) _
  have hI := Lib.hid (ContainsFunc_Instr (fun x => !validInstr x xs.length) 150 #[.pointer (some ⟨w.heap.size, 0, none⟩)] A c xs _ (h.on hW) enters_ValidProgram1 (fun W x es _ hb hR => impl_ValidProgram1 es x W hR w.heap.size A xs.length c (by
    rw [hb.cell (p := ⟨w.heap.size, 0, none⟩) (by simp)]; simp [go_sem])))
  have HW := Lib.hid hW; clear hW h
  by_cases h1 : xs.length ≤ 400
  · have h1' : decide ((xs.length : Int) ≤ 400) = true := by simp; omega
    rw [show validProg xs = !xs.any (fun x => !validInstr x xs.length) from by unfold validProg; simp [h1]]
    go_enter Try.func99, Try.ntmps99
    go_wp2_with (go_at_call 149; refine hI.out.mono ?_; rintro e w' ⟨rfl, hb⟩)
    go_ret
    exact ⟨rfl, below_trans HW.out hb⟩
  · have h1' : decide ((xs.length : Int) ≤ 400) = false := by simp; omega
    rw [show validProg xs = false from by unfold validProg; simp [h1]]
    go_enter Try.func99, Try.ntmps99
    go_wp2_with fail
    go_ret
    exact ⟨rfl, HW.out⟩

theorem validInstr_eq (kd r t el : Int) (n : Nat) : validInstr (kd, r, t, el) n = (isReg r && withinB t 0 n && ((kd == 0 || kd == 1) && (kd != 0 || el == 0) && withinB el 0 n)) := by
  unfold validInstr
  by_cases k0 : kd = 0
  · subst k0
    by_cases e0 : el = 0
    · subst e0; simp [withinB]
    · have e0' : (el == 0) = false := by simp [e0]
      simp [e0']
  · by_cases k1 : kd = 1
    · subst k1; simp
    · simp [k0, k1]

def badProg (p : List tInstr) (x : tInstr) : Bool := !validInstr x p.length

theorem validProg_eq (p : List tInstr) : validProg p = (!p.any (badProg p) && decide (p.length ≤ 400)) := by
  unfold validProg badProg; rw [Bool.and_comm]

set_option maxHeartbeats 1000000 in
theorem spec_l07Is (A : Option Addr) (c : Nat) (xs : List tInstr) (w : World) (h : Sl eInstr w (Old w) A c xs) :
    Calls Try.prog 96 #[.slice A xs.length c] w fun e w' => e = .returned (.bool (validProg xs)) ∧ Below w.heap.size w w' := by
  have hlen := h.len
  have H := Lib.hid h; clear h
  have HV := Lib.hid (validProg_eq xs)
  go_enter Try.func96, Try.ntmps96
  go_wp2
  go_loopw [4] (fun s4 wr => ∃ k : Nat, k ≤ xs.length ∧ s4 = .int .i64 k ∧ Hid ((xs.take k).any (badProg xs) = false) ∧ Hid (Below w.heap.size w wr)) (fun s4 _ => xs.length - (intOf s4).toNat)
  case atStart => exact ⟨0, Nat.zero_le _, rfl, rfl, Below.refl _ w⟩
  case round =>
    obtain ⟨k, hk, rfl, HN, BW⟩ := hrel
    by_cases hlt : k < xs.length
    · have hltz : (k : Int) < (xs.length : Int) := by omega
      obtain ⟨b, off, es, rfl, hb, hR, hc⟩ := H.out.at hlt
      obtain ⟨rfl, _, _, _, _⟩ := shape_Instr hR
      have d0 : wr.cell? ⟨b, off + k * 4, none⟩ = some (.int .i64 xs[k].1) := (below_olds BW.out _ hb).trans (hc 0 _ rfl)
      have d1 : wr.cell? ⟨b, off + k * 4 + 1, none⟩ = some (.int .i64 xs[k].2.1) := (below_olds BW.out _ hb).trans (hc 1 _ rfl)
      have d2 : wr.cell? ⟨b, off + k * 4 + 2, none⟩ = some (.int .i64 xs[k].2.2.1) := (below_olds BW.out _ hb).trans (hc 2 _ rfl)
      have d3 : wr.cell? ⟨b, off + k * 4 + 3, none⟩ = some (.int .i64 xs[k].2.2.2) := (below_olds BW.out _ hb).trans (hc 3 _ rfl)
      clear hc hR
      have HT : Hid (badProg xs xs[k] = true → validProg xs = false) := fun e => by rw [HV.out, any_hit hlt e]; rfl
      have HS : Hid (badProg xs xs[k] = false → (xs.take (k + 1)).any (badProg xs) = false) := fun e => any_step hlt HN.out e
      generalize xs[k] = y at d0 d1 d2 d3 HT HS
      obtain ⟨kd, r, t, el⟩ := y
      have HE : Hid (badProg xs (kd, r, t, el) = !(isReg r && withinB t 0 xs.length && ((kd == 0 || kd == 1) && (kd != 0 || el == 0) && withinB el 0 xs.length))) := by show _ = _; unfold badProg; rw [validInstr_eq]
      have HBW : Hid (∀ o, Below w.heap.size w (wr.alloc o)) := fun o => below_alloc BW.out o
      cases q1 : isReg r
      · go_wp2_with (go_at_call 148; refine (spec_l07Register _ _).mono ?_; rintro e w' ⟨rfl, rfl⟩; rw [q1])
        go_ret
        exact ⟨by rw [HT.out (by rw [HE.out, q1]; simp)]; rfl, HBW.out _⟩
      cases q2 : withinB t 0 xs.length
      · go_wp2_with (first | (go_at_call 148; refine (spec_l07Register _ _).mono ?_; rintro e w' ⟨rfl, rfl⟩; rw [q1]) | (go_at_call 79; refine (spec_l00In _ _ _ _).mono ?_; rintro e w' ⟨rfl, rfl⟩; rw [q2]))
        go_ret
        exact ⟨by rw [HT.out (by rw [HE.out, q2]; simp)]; rfl, HBW.out _⟩
      by_cases k0 : kd = 0
      · subst k0
        by_cases e0 : el = 0
        · subst e0
          cases q3 : withinB 0 0 xs.length
          · exfalso; simp [withinB] at q3
          have hF := HS.out (by rw [HE.out, q1, q2, q3]; simp)
          have HF := Lib.hid hF; clear hF
          go_wp2_with (first | (go_at_call 148; refine (spec_l07Register _ _).mono ?_; rintro e w' ⟨rfl, rfl⟩; rw [q1]) | (go_at_call 79; refine (spec_l00In _ _ _ _).mono ?_; rintro e w' ⟨rfl, rfl⟩; first | rw [q2] | rw [q3]))
          go_roundw
          case rel => exact ⟨k + 1, by omega, by go_num, HF.out, HBW.out _⟩
          case measure => simp [intOf]; omega
        · have e0' : (el != 0) = true := by simp [e0]
          have hF := HT.out (by rw [HE.out]; simp [e0])
          have HF := Lib.hid hF; clear hF
          go_wp2_with (first | (go_at_call 148; refine (spec_l07Register _ _).mono ?_; rintro e w' ⟨rfl, rfl⟩; rw [q1]) | (go_at_call 79; refine (spec_l00In _ _ _ _).mono ?_; rintro e w' ⟨rfl, rfl⟩; rw [q2]))
          go_ret
          exact ⟨by rw [HF.out]; rfl, HBW.out _⟩
      have k0a : (kd != 0) = true := by simp [k0]
      have k0b : (kd == 0) = false := by simp [k0]
      by_cases k1 : kd = 1
      · subst k1
        cases q3 : withinB el 0 xs.length
        · have hF := HT.out (by rw [HE.out, q3]; simp)
          have HF := Lib.hid hF; clear hF
          go_wp2_with (first | (go_at_call 148; refine (spec_l07Register _ _).mono ?_; rintro e w' ⟨rfl, rfl⟩; rw [q1]) | (go_at_call 79; refine (spec_l00In _ _ _ _).mono ?_; rintro e w' ⟨rfl, rfl⟩; first | rw [q2] | rw [q3]))
          go_ret
          exact ⟨by rw [HF.out]; rfl, HBW.out _⟩
        · have hF := HS.out (by rw [HE.out, q1, q2, q3]; simp)
          have HF := Lib.hid hF; clear hF
          go_wp2_with (first | (go_at_call 148; refine (spec_l07Register _ _).mono ?_; rintro e w' ⟨rfl, rfl⟩; rw [q1]) | (go_at_call 79; refine (spec_l00In _ _ _ _).mono ?_; rintro e w' ⟨rfl, rfl⟩; first | rw [q2] | rw [q3]))
          go_roundw
          case rel => exact ⟨k + 1, by omega, by go_num, HF.out, HBW.out _⟩
          case measure => simp [intOf]; omega
      have k1a : (kd != 1) = true := by simp [k1]
      have hF := HT.out (by rw [HE.out]; simp [k0, k1])
      have HF := Lib.hid hF; clear hF
      go_wp2_with (first | (go_at_call 148; refine (spec_l07Register _ _).mono ?_; rintro e w' ⟨rfl, rfl⟩; rw [q1]) | (go_at_call 79; refine (spec_l00In _ _ _ _).mono ?_; rintro e w' ⟨rfl, rfl⟩; rw [q2]))
      go_ret
      exact ⟨by rw [HF.out]; rfl, HBW.out _⟩
    · have hltz : ¬ (k : Int) < (xs.length : Int) := by omega
      obtain rfl : k = xs.length := by omega
      go_wp2
      go_ret
      have hn := HN.out
      rw [List.take_length] at hn
      exact ⟨ret_bool (by rw [HV.out, hn]; simp; omega), BW.out⟩

def outB (lo hi n : Int) : Bool := !withinB n lo hi

def allW (xs : List Int) (lo hi : Int) : Bool := !xs.any (outB lo hi)

theorem impl_allWithin (A : Option Addr) (c : Nat) (xs : List Int) (lo hi : Int) (w : World) (h : Sl eInt w (Old w) A c xs) :
    Calls Try.prog 117 #[.slice A xs.length c, .int .i64 lo, .int .i64 hi] w fun e w' => e = .returned (.bool (allW xs lo hi)) ∧ w = w' := by
  have hlen := h.len
  have H := Lib.hid h; clear h
  unfold allW
  go_enter Try.func117, Try.ntmps117
  go_wp2
  go_loop [8, 11] (fun _ i => ∃ k : Nat, k ≤ xs.length ∧ i = .int .i64 k ∧ Hid ((xs.take k).any (outB lo hi) = false)) (fun _ i => xs.length - (intOf i).toNat)
  case atStart => exact ⟨0, Nat.zero_le _, rfl, rfl⟩
  case round =>
    obtain ⟨k, hk, rfl, HN⟩ := hrel
    by_cases hlt : k < xs.length
    · have hltz : (k : Int) < (xs.length : Int) := by omega
      obtain ⟨b, off, es, rfl, hb, ⟨rfl, _⟩, hc⟩ := H.out.at1 rfl hlt
      have d0 : w.cell? ⟨b, off + k, none⟩ = some (.int .i64 xs[k]) := hc _ rfl
      clear hc
      have HT : Hid (outB lo hi xs[k] = true → xs.any (outB lo hi) = true) := fun e => any_hit hlt e
      have HS : Hid (outB lo hi xs[k] = false → (xs.take (k + 1)).any (outB lo hi) = false) := fun e => any_step hlt HN.out e
      generalize xs[k] = y at d0 HT HS
      cases q1 : withinB y lo hi
      · go_wp2_with (go_at_call 81; refine (impl_within _ _ _ _).mono ?_; rintro e w' ⟨rfl, rfl⟩; rw [q1])
        go_ret
        exact ⟨by rw [HT.out (by unfold outB; rw [q1]; rfl)]; rfl, rfl⟩
      · go_wp2_with (go_at_call 81; refine (impl_within _ _ _ _).mono ?_; rintro e w' ⟨rfl, rfl⟩; rw [q1])
        go_round
        case rel => exact ⟨k + 1, by omega, by go_num, HS.out (by unfold outB; rw [q1]; rfl)⟩
        case measure => simp [intOf]; omega
    · have hltz : ¬ (k : Int) < (xs.length : Int) := by omega
      obtain rfl : k = xs.length := by omega
      go_wp2
      go_ret
      have hn := HN.out
      rw [List.take_length] at hn
      exact ⟨ret_bool (by rw [hn]; rfl), rfl⟩

theorem spec_l07Counts (A : Option Addr) (c : Nat) (xs : List Int) (w : World) (h : Sl eInt w (Old w) A c xs) :
    Calls Try.prog 115 #[.slice A xs.length c] w fun e w' => e = .returned (.bool (allW xs 0 1000000)) ∧ w = w' := by
  have hlen := h.len
  have H := Lib.hid h; clear h
  have HV : Hid (allW xs 0 1000000 = !xs.any (outB 0 1000000)) := rfl
  go_enter Try.func115, Try.ntmps115
  go_wp2
  go_loop [3] (fun i => ∃ k : Nat, k ≤ xs.length ∧ i = .int .i64 k ∧ Hid ((xs.take k).any (outB 0 1000000) = false)) (fun i => xs.length - (intOf i).toNat)
  case atStart => exact ⟨0, Nat.zero_le _, rfl, rfl⟩
  case round =>
    obtain ⟨k, hk, rfl, HN⟩ := hrel
    by_cases hlt : k < xs.length
    · have hltz : (k : Int) < (xs.length : Int) := by omega
      obtain ⟨b, off, es, rfl, hb, ⟨rfl, _⟩, hc⟩ := H.out.at1 rfl hlt
      have d0 : w.cell? ⟨b, off + k, none⟩ = some (.int .i64 xs[k]) := hc _ rfl
      clear hc
      have HT : Hid (outB 0 1000000 xs[k] = true → xs.any (outB 0 1000000) = true) := fun e => any_hit hlt e
      have HS : Hid (outB 0 1000000 xs[k] = false → (xs.take (k + 1)).any (outB 0 1000000) = false) := fun e => any_step hlt HN.out e
      generalize xs[k] = y at d0 HT HS
      cases q1 : withinB y 0 1000000
      · go_wp2_with (go_at_call 79; refine (spec_l00In _ _ _ _).mono ?_; rintro e w' ⟨rfl, rfl⟩; rw [q1])
        go_ret
        exact ⟨ret_bool (by rw [HV.out, HT.out (by unfold outB; rw [q1]; rfl)]; rfl), rfl⟩
      · go_wp2_with (go_at_call 79; refine (spec_l00In _ _ _ _).mono ?_; rintro e w' ⟨rfl, rfl⟩; rw [q1])
        go_round
        case rel => exact ⟨k + 1, by omega, by go_num, HS.out (by unfold outB; rw [q1]; rfl)⟩
        case measure => simp [intOf]; omega
    · have hltz : ¬ (k : Int) < (xs.length : Int) := by omega
      obtain rfl : k = xs.length := by omega
      go_wp2
      go_ret
      have hn := HN.out
      rw [List.take_length] at hn
      exact ⟨ret_bool (by rw [HV.out, hn]; rfl), rfl⟩

def storeOf (p : List tInstr) (x : tStore) : Bool := withinB x.1 0 p.length && ((x.2.length : Int) == 24) && allW x.2 0 1000000

def validStore (p : List tInstr) (x : tStore) : Bool := validProg p && storeOf p x

set_option maxRecDepth 100000 in
set_option maxHeartbeats 1000000 in
theorem impl_storeOf (A : Option Addr) (c : Nat) (p : List tInstr) (es : List Value) (x : tStore) (w : World) (hp : Sl eInstr w (Old w) A c p) (h : eStore.R w (Old w) es x) :
    Calls Try.prog 100 #[.slice A p.length c, .agg es.toArray] w fun e w' => e = .returned (.bool (storeOf p x)) ∧ Below w.heap.size w w' := by
  have hlen := hp.len
  clear hp
  obtain ⟨A1, c1, rfl, _, g1⟩ := shape_Store h
  clear h
  obtain ⟨at_, xs⟩ := x
  simp only at g1
  show Calls Try.prog 100 #[.slice A p.length c, .agg #[.int .i64 at_, .slice A1 xs.length c1]] w _
  have HB : Hid (Below w.heap.size w (w.alloc (.cells #[.int .i64 at_, .slice A1 xs.length c1] 59))) := by show Below _ _ _; go_grown
  have HE : Hid (storeOf p (at_, xs) = (withinB at_ 0 p.length && ((xs.length : Int) == 24) && allW xs 0 1000000)) := rfl
  have HC := Lib.hid (fun n => impl_allWithin _ _ xs 0 1000000 _ (g1.on (below_drewN HB.out n)))
  have hl := g1.len
  clear g1
  have HW := Lib.hid (fun W => impl_within at_ 0 p.length W)
  cases q0 : withinB at_ 0 p.length
  · rw [q0] at HW
    go_enter Try.func100, Try.ntmps100
    go_wp2_with fail
    go_quiet (first | (go_at_call 152; exact Dr.quiet0 (impl_size_Instr _ _ _ _)) | (go_at_call 81; exact Dr.quiet0 (HW.out _)))
    go_wp2
    go_ret
    exact ⟨ret_bool (by rw [HE.out, q0]; rfl), below_drewN HB.out _⟩
  rw [q0] at HW
  cases q1 : ((xs.length : Int) == 24)
  · go_enter Try.func100, Try.ntmps100
    go_wp2_with fail
    go_quiet (first | (go_at_call 152; exact Dr.quiet0 (impl_size_Instr _ _ _ _)) | (go_at_call 81; exact Dr.quiet0 (HW.out _)))
    go_wp2
    go_ret
    exact ⟨ret_bool (by rw [HE.out, q0, q1]; rfl), below_drewN HB.out _⟩
  · go_enter Try.func100, Try.ntmps100
    go_wp2_with fail
    go_quiet (first | (go_at_call 152; exact Dr.quiet0 (impl_size_Instr _ _ _ _)) | (go_at_call 81; exact Dr.quiet0 (HW.out _)) | (go_at_call 117; exact Dr.quiet0 (HC.out _)))
    go_wp2
    go_ret
    exact ⟨ret_bool (by rw [HE.out, q0, q1]; rfl), below_drewN HB.out _⟩

set_option maxHeartbeats 1000000 in
theorem spec_l07Good (A : Option Addr) (c : Nat) (p : List tInstr) (q : Nat) (x : tStore) (A1 : Option Addr) (c1 : Nat) (w : World) (hp : Sl eInstr w (Old w) A c p) (x0 : w.cell? ⟨q, 0, none⟩ = some (.int .i64 x.1)) (x1 : w.cell? ⟨q, 1, none⟩ = some (.slice A1 x.2.length c1)) (h : Sl eInt w (Old w) A1 c1 x.2) :
    Calls Try.prog 97 #[.slice A p.length c, .pointer (some ⟨q, 0, none⟩)] w fun e w' => e = .returned (.bool (storeOf p x)) ∧ w = w' := by
  have hlen := hp.len
  clear hp
  obtain ⟨at_, xs⟩ := x
  simp only at h x0 x1
  have HE : Hid (storeOf p (at_, xs) = (withinB at_ 0 p.length && ((xs.length : Int) == 24) && allW xs 0 1000000)) := rfl
  have HC := Lib.hid (spec_l07Counts _ _ xs _ h)
  have hl := h.len
  clear h
  cases q0 : withinB at_ 0 p.length
  · go_enter Try.func97, Try.ntmps97
    go_wp2_with (first | (go_at_call 79; refine (spec_l00In _ _ _ _).mono ?_; rintro e w' ⟨rfl, rfl⟩; rw [q0]))
    go_ret
    exact ⟨ret_bool (by rw [HE.out, q0]; rfl), rfl⟩
  cases q1 : ((xs.length : Int) == 24)
  · go_enter Try.func97, Try.ntmps97
    go_wp2_with (first | (go_at_call 79; refine (spec_l00In _ _ _ _).mono ?_; rintro e w' ⟨rfl, rfl⟩; rw [q0]))
    go_ret
    exact ⟨ret_bool (by rw [HE.out, q0, q1]; rfl), rfl⟩
  · go_enter Try.func97, Try.ntmps97
    go_wp2_with (first | (go_at_call 79; refine (spec_l00In _ _ _ _).mono ?_; rintro e w' ⟨rfl, rfl⟩; rw [q0]) | (go_at_call 115; refine HC.out.mono ?_; rintro e w' ⟨rfl, rfl⟩))
    go_ret
    exact ⟨ret_bool (by rw [HE.out, q0, q1]; rfl), rfl⟩

set_option maxHeartbeats 1000000 in
theorem impl_ValidStore (A : Option Addr) (c : Nat) (p : List tInstr) (es : List Value) (x : tStore) (w : World) (hp : Sl eInstr w (Old w) A c p) (h : eStore.R w (Old w) es x) :
    Calls Try.prog 37 #[.slice A p.length c, .agg es.toArray] w fun e w' => e = .returned (.bool (validStore p x)) ∧ Below w.heap.size w w' := by
  have hx := h
  have HR := Lib.hid h; clear h
  obtain ⟨A1, c1, rfl, _, g1⟩ := shape_Store hx
  clear hx g1
  have HB : Hid (Below w.heap.size w (w.alloc (.cells #[.int .i64 x.1, .slice A1 x.2.length c1] 59))) := by show Below _ _ _; go_grown
  have HE : Hid (validStore p x = (validProg p && storeOf p x)) := rfl
  have HP := Lib.hid (hp.on HB.out); clear hp
  have HV := Lib.hid (impl_ValidProgram _ _ p _ HP.out)
  cases q0 : validProg p
  · rw [q0] at HV
    go_enter Try.func37, Try.ntmps37
    go_wp2_with (go_at_call 99; refine HV.out.mono ?_; rintro e w1 ⟨rfl, hb⟩)
    go_ret
    exact ⟨ret_bool (by rw [HE.out, q0]; rfl), below_trans HB.out hb⟩
  · rw [q0] at HV
    go_enter Try.func37, Try.ntmps37
    go_wp2_with fail
    refine HV.out.mono ?_
    rintro e w1 ⟨rfl, hb⟩
    have hB := (Blk.new w 59 #[.int .i64 x.1, .slice A1 x.2.length c1]).on hb
    have e0 := hB.cell 0
    have e1 := hB.cell 1
    have HB1 := Lib.hid hb; clear hb hB
    go_wp2_with fail
    refine (impl_storeOf _ _ p _ x _ (HP.out.on HB1.out) (eStore.on (eStore.on HR.out HB.out) HB1.out)).mono ?_
    rintro e w2 ⟨rfl, hb⟩
    go_wp2
    go_ret
    exact ⟨ret_bool (by rw [HE.out, q0]; rfl), below_trans (below_trans HB.out HB1.out) hb⟩

set_option maxHeartbeats 1000000 in
theorem spec_ValidStore (A : Option Addr) (c : Nat) (p : List tInstr) (es : List Value) (x : tStore) (w : World) (hp : Sl eInstr w (Old w) A c p) (h : eStore.R w (Old w) es x) :
    Calls Try.prog 34 #[.slice A p.length c, .agg es.toArray] w fun e w' => e = .returned (.bool (validStore p x)) ∧ Below w.heap.size w w' := by
  obtain ⟨A1, c1, rfl, _, g1⟩ := shape_Store h
  clear h
  have HB : Hid (Below w.heap.size w (w.alloc (.cells #[.int .i64 x.1, .slice A1 x.2.length c1] 59))) := by show Below _ _ _; go_grown
  have HE : Hid (validStore p x = (validProg p && storeOf p x)) := rfl
  have HP := Lib.hid (hp.on HB.out); clear hp
  have HG := Lib.hid (g1.on HB.out); clear g1
  have HV := Lib.hid (spec_l07Is _ _ p _ HP.out)
  cases q0 : validProg p
  · rw [q0] at HV
    go_enter Try.func34, Try.ntmps34
    go_wp2_with (go_at_call 96; refine HV.out.mono ?_; rintro e w1 ⟨rfl, hb⟩)
    go_ret
    exact ⟨ret_bool (by rw [HE.out, q0]; rfl), below_trans HB.out hb⟩
  · rw [q0] at HV
    go_enter Try.func34, Try.ntmps34
    go_wp2_with fail
    refine HV.out.mono ?_
    rintro e w1 ⟨rfl, hb⟩
    have hB := (Blk.new w 59 #[.int .i64 x.1, .slice A1 x.2.length c1]).on hb
    have e0 := hB.cell 0
    have e1 := hB.cell 1
    have HB1 := Lib.hid hb; clear hb hB
    go_wp2_with fail
    refine (spec_l07Good _ _ p _ x _ _ _ (HP.out.on HB1.out) e0 e1 (HG.out.on HB1.out)).mono ?_
    rintro e w2 ⟨rfl, rfl⟩
    go_wp2
    go_ret
    exact ⟨ret_bool (by rw [HE.out, q0]; rfl), below_trans HB.out HB1.out⟩

set_option maxRecDepth 100000 in
set_option maxHeartbeats 8000000 in
theorem law_ValidStore (A0 : Option Addr) (c0 : Nat) (a0 : (List tInstr)) (es1 : List Value) (a1 : tStore) (w : World) (h0 : Sl eInstr w (Old w) A0 c0 a0) (h1 : eStore.R w (Old w) es1 a1) :
    Calls Try.prog 7 #[.slice A0 a0.length c0, .agg es1.toArray] w fun e w' => e = .returned (.bool true) ∧ Below w.heap.size w w' := by
  have hlen0 := h0.len
  have H0 := Lib.hid h0; clear h0
  have H1 := Lib.hid h1
  obtain ⟨Aa11, ca11, rfl, ga10, ga11⟩ := shape_Store h1
  clear ga10 ga11
  try clear h1
  have HBw := Lib.hid (Below.refl w.heap.size w)
  by_cases t0 : (1048576 : Int) - (cost_SInstr a0 : Nat) < 0
  · go_enter Try.func7, Try.ntmps7
    go_wp2_with fail
    refine (sz_InstrS _ _ a0 _ _ (by exact H0.out.on (below_alloc HBw.out (.cells #[.int .i64 a1.1, .slice Aa11 a1.2.length ca11] 53))) (by omega) (by omega)).mono ?_
    rintro e z0 ⟨rfl, hb⟩
    rw [left_neg (by omega)]
    have hbp : Below w.heap.size w z0 := below_trans (below_alloc (Below.refl _ _) (.cells #[.int .i64 a1.1, .slice Aa11 a1.2.length ca11] 53)) hb
    have Zz0 : Hid (w.heap.size + 1 ≤ z0.heap.size) := by have h1 := hb.size; (try simp only [World.size_alloc, World.size_drew] at h1); show _ ≤ _; omega
    have HBz0 := Lib.hid (below_trans HBw.out hbp)
    have HXa1 := Lib.hid ((Blk.new w 53 #[.int .i64 a1.1, .slice Aa11 a1.2.length ca11]).on hb)
    clear hbp hb
    have fa1_0 : z0.cell? ⟨w.heap.size, 0, none⟩ = some (.int .i64 a1.1) := HXa1.out.cell 0
    have fa1_1 : z0.cell? ⟨w.heap.size, 1, none⟩ = some (.slice Aa11 a1.2.length ca11) := HXa1.out.cell 1
    go_wp2
    go_ret
    exact ⟨rfl, HBz0.out⟩
  by_cases t1 : (1048576 : Int) - (cost_SInstr a0 : Nat) - (cost_Store a1 : Nat) < 0
  · go_enter Try.func7, Try.ntmps7
    go_wp2_with fail
    refine (sz_InstrS _ _ a0 _ _ (by exact H0.out.on (below_alloc HBw.out (.cells #[.int .i64 a1.1, .slice Aa11 a1.2.length ca11] 53))) (by omega) (by omega)).mono ?_
    rintro e z0 ⟨rfl, hb⟩
    rw [left_pos (by omega)]
    have hbp : Below w.heap.size w z0 := below_trans (below_alloc (Below.refl _ _) (.cells #[.int .i64 a1.1, .slice Aa11 a1.2.length ca11] 53)) hb
    have Zz0 : Hid (w.heap.size + 1 ≤ z0.heap.size) := by have h1 := hb.size; (try simp only [World.size_alloc, World.size_drew] at h1); show _ ≤ _; omega
    have HBz0 := Lib.hid (below_trans HBw.out hbp)
    have HXa1 := Lib.hid ((Blk.new w 53 #[.int .i64 a1.1, .slice Aa11 a1.2.length ca11]).on hb)
    clear hbp hb
    have fa1_0 : z0.cell? ⟨w.heap.size, 0, none⟩ = some (.int .i64 a1.1) := HXa1.out.cell 0
    have fa1_1 : z0.cell? ⟨w.heap.size, 1, none⟩ = some (.slice Aa11 a1.2.length ca11) := HXa1.out.cell 1
    go_wp2_with fail
    refine (sz_Store _ a1 _ _ (by exact eStore.on H1.out HBz0.out) (by omega) (by omega)).mono ?_
    rintro e z1 ⟨rfl, hb⟩
    rw [left_neg (by omega)]
    have hbp : Below z0.heap.size z0 z1 := hb
    have Zz1 : Hid (z0.heap.size + 0 ≤ z1.heap.size) := by have h1 := hb.size; (try simp only [World.size_alloc, World.size_drew] at h1); show _ ≤ _; omega
    have HBz1 := Lib.hid (below_trans HBz0.out hbp)
    have HXa1_ := Lib.hid (HXa1.out.on hbp); clear HXa1; have HXa1 := HXa1_; clear HXa1_
    clear hbp hb
    clear fa1_0 fa1_1
    have fa1_0 : z1.cell? ⟨w.heap.size, 0, none⟩ = some (.int .i64 a1.1) := HXa1.out.cell 0
    have fa1_1 : z1.cell? ⟨w.heap.size, 1, none⟩ = some (.slice Aa11 a1.2.length ca11) := HXa1.out.cell 1
    go_wp2
    go_ret
    exact ⟨rfl, HBz1.out⟩
  have HC0 : Hid (cost_SInstr a0 ≤ 1048576) := by show _ ≤ _; omega
  have HC1 : Hid (cost_Store a1 ≤ 1048576) := by show _ ≤ _; omega
  go_enter Try.func7, Try.ntmps7
  go_wp2_with fail
  refine (sz_InstrS _ _ a0 _ _ (by exact H0.out.on (below_alloc HBw.out (.cells #[.int .i64 a1.1, .slice Aa11 a1.2.length ca11] 53))) (by omega) (by omega)).mono ?_
  rintro e z0 ⟨rfl, hb⟩
  rw [left_pos (by omega)]
  have hbp : Below w.heap.size w z0 := below_trans (below_alloc (Below.refl _ _) (.cells #[.int .i64 a1.1, .slice Aa11 a1.2.length ca11] 53)) hb
  have Zz0 : Hid (w.heap.size + 1 ≤ z0.heap.size) := by have h1 := hb.size; (try simp only [World.size_alloc, World.size_drew] at h1); show _ ≤ _; omega
  have HBz0 := Lib.hid (below_trans HBw.out hbp)
  have HXa1 := Lib.hid ((Blk.new w 53 #[.int .i64 a1.1, .slice Aa11 a1.2.length ca11]).on hb)
  clear hbp hb
  have fa1_0 : z0.cell? ⟨w.heap.size, 0, none⟩ = some (.int .i64 a1.1) := HXa1.out.cell 0
  have fa1_1 : z0.cell? ⟨w.heap.size, 1, none⟩ = some (.slice Aa11 a1.2.length ca11) := HXa1.out.cell 1
  go_wp2_with fail
  refine (sz_Store _ a1 _ _ (by exact eStore.on H1.out HBz0.out) (by omega) (by omega)).mono ?_
  rintro e z1 ⟨rfl, hb⟩
  rw [left_pos (by omega)]
  have hbp : Below z0.heap.size z0 z1 := hb
  have Zz1 : Hid (z0.heap.size + 0 ≤ z1.heap.size) := by have h1 := hb.size; (try simp only [World.size_alloc, World.size_drew] at h1); show _ ≤ _; omega
  have HBz1 := Lib.hid (below_trans HBz0.out hbp)
  have HXa1_ := Lib.hid (HXa1.out.on hbp); clear HXa1; have HXa1 := HXa1_; clear HXa1_
  clear hbp hb
  clear fa1_0 fa1_1
  have fa1_0 : z1.cell? ⟨w.heap.size, 0, none⟩ = some (.int .i64 a1.1) := HXa1.out.cell 0
  have fa1_1 : z1.cell? ⟨w.heap.size, 1, none⟩ = some (.slice Aa11 a1.2.length ca11) := HXa1.out.cell 1
  go_wp2_with fail
  go_region_held3 (fun w' => w'.cell? ⟨w.heap.size, 0, none⟩ = some (.int .i64 a1.1) ∧ w'.cell? ⟨w.heap.size, 1, none⟩ = some (.slice Aa11 a1.2.length ca11)) (first | (simp [go_sem, *]; done) | (refine ⟨?_, ?_⟩ <;> assumption))
    (first
      | (go_at_call 35; refine (to_InstrS _ _ a0 _ (by exact H0.out.on (HBz1.out.drew)) HC0.out).mono ?_; rintro e ws0 ⟨As0, cs0, rfl, hs, hb⟩; (have HSs0 := Lib.hid (hs.more (Iv.mono (l' := z1.heap.size) (h' := ws0.heap.size) (by first | exact Nat.le_refl _ | (simp only [World.size_alloc, World.size_drew]; omega) | (simp; omega)) (Nat.le_refl _))); clear hs); (have hbp : Below z1.heap.size z1 ws0 := below_trans ((Below.refl _ _).drew) hb); (have Zws0 : Hid (z1.heap.size + 0 ≤ ws0.heap.size) := by have h1 := hb.size; (try simp only [World.size_alloc, World.size_drew] at h1); show _ ≤ _; omega); (have HBws0 := Lib.hid (below_trans HBz1.out hbp)); (have HXa1_ := Lib.hid (HXa1.out.on hbp); clear HXa1; have HXa1 := HXa1_; clear HXa1_); (clear hbp hb); (clear fa1_0 fa1_1); (have fa1_0 : ws0.cell? ⟨w.heap.size, 0, none⟩ = some (.int .i64 a1.1) := HXa1.out.cell 0); (have fa1_1 : ws0.cell? ⟨w.heap.size, 1, none⟩ = some (.slice Aa11 a1.2.length ca11) := HXa1.out.cell 1))
      | (go_at_call 36; refine (to_Store _ a1 _ (by exact eStore.on H1.out HBws0.out) HC1.out).mono ?_; rintro e ws1 ⟨ess1, rfl, ho, hb⟩; (have hR := eStore.read ho); (have HSs1 := Lib.hid (eStore.omore ho (Iv.mono (l' := ws0.heap.size) (h' := ws1.heap.size) (by first | exact Nat.le_refl _ | (simp only [World.size_alloc, World.size_drew]; omega) | (simp; omega)) (Nat.le_refl _))); clear ho); (obtain ⟨As11, cs11, rfl, gs10, gs11⟩ := shape_Store hR); (clear gs10 gs11); (try clear hR); (have hbp : Below ws0.heap.size ws0 ws1 := hb); (have Zws1 : Hid (ws0.heap.size + 0 ≤ ws1.heap.size) := by have h1 := hb.size; (try simp only [World.size_alloc, World.size_drew] at h1); show _ ≤ _; omega); (have HBws1 := Lib.hid (below_trans HBws0.out hbp)); (have HXa1_ := Lib.hid (HXa1.out.on hbp); clear HXa1; have HXa1 := HXa1_; clear HXa1_); (have HSs0_ := Lib.hid (HSs0.out.keep (fun b hS => hbp.block b (by have q1 := hS.1; have q2 := hS.2; have zz0 := Zz0.out; have zz1 := Zz1.out; have zws0 := Zws0.out; omega))); clear HSs0; have HSs0 := HSs0_; clear HSs0_); (clear hbp hb); (clear fa1_0 fa1_1); (have fa1_0 : ws1.cell? ⟨w.heap.size, 0, none⟩ = some (.int .i64 a1.1) := HXa1.out.cell 0); (have fa1_1 : ws1.cell? ⟨w.heap.size, 1, none⟩ = some (.slice Aa11 a1.2.length ca11) := HXa1.out.cell 1))
      | (go_at_call 34; refine (spec_ValidStore _ _ a0 _ a1 _ (by exact (HSs0.out.sl.more (fun b hS => (by have q2 := hS.2; show _ < _; have zz0 := Zz0.out; have zz1 := Zz1.out; have zws0 := Zws0.out; have zws1 := Zws1.out; omega)))) (by exact (eStore.more (eStore.read HSs1.out) (fun b hS => (by have q2 := hS.2; show _ < _; have zz0 := Zz0.out; have zz1 := Zz1.out; have zws0 := Zws0.out; have zws1 := Zws1.out; omega))))).mono ?_; rintro e v0 ⟨rfl, hb⟩; (clear HSs0); (clear HSs1); (have hbp : Below ws1.heap.size ws1 v0 := hb); (have Zv0 : Hid (ws1.heap.size + 0 ≤ v0.heap.size) := by have h1 := hb.size; (try simp only [World.size_alloc, World.size_drew] at h1); show _ ≤ _; omega); (have HBv0 := Lib.hid (below_trans HBws1.out hbp)); (have HXa1_ := Lib.hid (HXa1.out.on hbp); clear HXa1; have HXa1 := HXa1_; clear HXa1_); (clear hbp hb); (clear fa1_0 fa1_1); (have fa1_0 : v0.cell? ⟨w.heap.size, 0, none⟩ = some (.int .i64 a1.1) := HXa1.out.cell 0); (have fa1_1 : v0.cell? ⟨w.heap.size, 1, none⟩ = some (.slice Aa11 a1.2.length ca11) := HXa1.out.cell 1)))
  have HVv0 := Lib.hid (Below.refl v0.heap.size v0)
  go_wp2_with fail
  refine (to_InstrS _ _ a0 _ (by exact H0.out.on HBv0.out) HC0.out).mono ?_
  rintro e wx0 ⟨Ax0, cx0, rfl, hs, hb⟩
  have HSx0 := Lib.hid (hs.more (Iv.mono (l' := v0.heap.size) (h' := wx0.heap.size) (by first | exact Nat.le_refl _ | (simp only [World.size_alloc, World.size_drew]; omega) | (simp; omega)) (Nat.le_refl _))); clear hs
  have hbp : Below v0.heap.size v0 wx0 := hb
  have Zwx0 : Hid (v0.heap.size + 0 ≤ wx0.heap.size) := by have h1 := hb.size; (try simp only [World.size_alloc, World.size_drew] at h1); show _ ≤ _; omega
  have HBwx0 := Lib.hid (below_trans HBv0.out hbp)
  have HVwx0 := Lib.hid (HVv0.out.trans (hbp.mono HVv0.out.size))
  have HXa1_ := Lib.hid (HXa1.out.on hbp); clear HXa1; have HXa1 := HXa1_; clear HXa1_
  clear hbp hb
  clear fa1_0 fa1_1
  have fa1_0 : wx0.cell? ⟨w.heap.size, 0, none⟩ = some (.int .i64 a1.1) := HXa1.out.cell 0
  have fa1_1 : wx0.cell? ⟨w.heap.size, 1, none⟩ = some (.slice Aa11 a1.2.length ca11) := HXa1.out.cell 1
  go_wp2_with fail
  refine (to_Store _ a1 _ (by exact eStore.on H1.out HBwx0.out) HC1.out).mono ?_
  rintro e wx1 ⟨esx1, rfl, ho, hb⟩
  have hR := eStore.read ho
  have HSx1 := Lib.hid (eStore.omore ho (Iv.mono (l' := wx0.heap.size) (h' := wx1.heap.size) (by first | exact Nat.le_refl _ | (simp only [World.size_alloc, World.size_drew]; omega) | (simp; omega)) (Nat.le_refl _))); clear ho
  obtain ⟨Ax11, cx11, rfl, gx10, gx11⟩ := shape_Store hR
  clear gx10 gx11
  try clear hR
  have hbp : Below wx0.heap.size wx0 wx1 := hb
  have Zwx1 : Hid (wx0.heap.size + 0 ≤ wx1.heap.size) := by have h1 := hb.size; (try simp only [World.size_alloc, World.size_drew] at h1); show _ ≤ _; omega
  have HBwx1 := Lib.hid (below_trans HBwx0.out hbp)
  have HVwx1 := Lib.hid (HVwx0.out.trans (hbp.mono HVwx0.out.size))
  have HXa1_ := Lib.hid (HXa1.out.on hbp); clear HXa1; have HXa1 := HXa1_; clear HXa1_
  have HSx0_ := Lib.hid (HSx0.out.keep (fun b hS => hbp.block b (by have q1 := hS.1; have q2 := hS.2; have zz0 := Zz0.out; have zz1 := Zz1.out; have zws0 := Zws0.out; have zws1 := Zws1.out; have zv0 := Zv0.out; have zwx0 := Zwx0.out; omega))); clear HSx0; have HSx0 := HSx0_; clear HSx0_
  clear hbp hb
  clear fa1_0 fa1_1
  have fa1_0 : wx1.cell? ⟨w.heap.size, 0, none⟩ = some (.int .i64 a1.1) := HXa1.out.cell 0
  have fa1_1 : wx1.cell? ⟨w.heap.size, 1, none⟩ = some (.slice Aa11 a1.2.length ca11) := HXa1.out.cell 1
  have ma1_0 : (wx1.alloc (.cells #[.int .i64 a1.1, .slice Ax11 a1.2.length cx11] 59)).cell? ⟨w.heap.size, 0, none⟩ = some (.int .i64 a1.1) := (HXa1.out.alloc _).cell 0
  have ma1_1 : (wx1.alloc (.cells #[.int .i64 a1.1, .slice Ax11 a1.2.length cx11] 59)).cell? ⟨w.heap.size, 1, none⟩ = some (.slice Aa11 a1.2.length ca11) := (HXa1.out.alloc _).cell 1
  have mx1_0 : (wx1.alloc (.cells #[.int .i64 a1.1, .slice Ax11 a1.2.length cx11] 59)).cell? ⟨wx1.heap.size, 0, none⟩ = some (.int .i64 a1.1) := (Blk.new wx1 59 #[.int .i64 a1.1, .slice Ax11 a1.2.length cx11]).cell 0
  have mx1_1 : (wx1.alloc (.cells #[.int .i64 a1.1, .slice Ax11 a1.2.length cx11] 59)).cell? ⟨wx1.heap.size, 1, none⟩ = some (.slice Ax11 a1.2.length cx11) := (Blk.new wx1 59 #[.int .i64 a1.1, .slice Ax11 a1.2.length cx11]).cell 1
  go_wp2_with fail
  refine (impl_ValidStore _ _ a0 _ a1 _ (by exact (show Sl _ wx1 (Old wx1) _ _ _ from (HSx0.out.sl.more (fun b hS => (by have q2 := hS.2; show _ < _; have zz0 := Zz0.out; have zz1 := Zz1.out; have zws0 := Zws0.out; have zws1 := Zws1.out; have zv0 := Zv0.out; have zwx0 := Zwx0.out; have zwx1 := Zwx1.out; omega)))).on (below_alloc (Below.refl _ _) (.cells #[.int .i64 a1.1, .slice Ax11 a1.2.length cx11] 59))) (by exact eStore.on (show eStore.R wx1 (Old wx1) _ _ from (eStore.more (eStore.read HSx1.out) (fun b hS => (by have q2 := hS.2; show _ < _; have zz0 := Zz0.out; have zz1 := Zz1.out; have zws0 := Zws0.out; have zws1 := Zws1.out; have zv0 := Zv0.out; have zwx0 := Zwx0.out; have zwx1 := Zwx1.out; omega)))) (below_alloc (Below.refl _ _) (.cells #[.int .i64 a1.1, .slice Ax11 a1.2.length cx11] 59)))).mono ?_
  rintro e vg ⟨rfl, hb⟩
  have hbp : Below wx1.heap.size wx1 vg := below_trans (below_alloc (Below.refl _ _) (.cells #[.int .i64 a1.1, .slice Ax11 a1.2.length cx11] 59)) hb
  have Zvg : Hid (wx1.heap.size + 1 ≤ vg.heap.size) := by have h1 := hb.size; (try simp only [World.size_alloc, World.size_drew] at h1); show _ ≤ _; omega
  have HBvg := Lib.hid (below_trans HBwx1.out hbp)
  have HVvg := Lib.hid (HVwx1.out.trans (hbp.mono HVwx1.out.size))
  have HXa1_ := Lib.hid (HXa1.out.on hbp); clear HXa1; have HXa1 := HXa1_; clear HXa1_
  have HXx1 := Lib.hid ((Blk.new wx1 59 #[.int .i64 a1.1, .slice Ax11 a1.2.length cx11]).on hb)
  have HSx0_ := Lib.hid (HSx0.out.keep (fun b hS => hbp.block b (by have q1 := hS.1; have q2 := hS.2; have zz0 := Zz0.out; have zz1 := Zz1.out; have zws0 := Zws0.out; have zws1 := Zws1.out; have zv0 := Zv0.out; have zwx0 := Zwx0.out; have zwx1 := Zwx1.out; omega))); clear HSx0; have HSx0 := HSx0_; clear HSx0_
  have HSx1_ := Lib.hid (eStore.okeep HSx1.out (fun b hS => hbp.block b (by have q1 := hS.1; have q2 := hS.2; have zz0 := Zz0.out; have zz1 := Zz1.out; have zws0 := Zws0.out; have zws1 := Zws1.out; have zv0 := Zv0.out; have zwx0 := Zwx0.out; have zwx1 := Zwx1.out; omega))); clear HSx1; have HSx1 := HSx1_; clear HSx1_
  clear hbp hb
  clear fa1_0 fa1_1 ma1_0 ma1_1 mx1_0 mx1_1
  have fa1_0 : vg.cell? ⟨w.heap.size, 0, none⟩ = some (.int .i64 a1.1) := HXa1.out.cell 0
  have fa1_1 : vg.cell? ⟨w.heap.size, 1, none⟩ = some (.slice Aa11 a1.2.length ca11) := HXa1.out.cell 1
  have fx1_0 : vg.cell? ⟨wx1.heap.size, 0, none⟩ = some (.int .i64 a1.1) := HXx1.out.cell 0
  have fx1_1 : vg.cell? ⟨wx1.heap.size, 1, none⟩ = some (.slice Ax11 a1.2.length cx11) := HXx1.out.cell 1
  go_wp2_with fail
  refine (to_InstrS _ _ a0 _ (by exact H0.out.on HBvg.out) HC0.out).mono ?_
  rintro e wy0 ⟨Ay0, cy0, rfl, hs, hb⟩
  have HSy0 := Lib.hid (hs.more (Iv.mono (l' := vg.heap.size) (h' := wy0.heap.size) (by first | exact Nat.le_refl _ | (simp only [World.size_alloc, World.size_drew]; omega) | (simp; omega)) (Nat.le_refl _))); clear hs
  have hbp : Below vg.heap.size vg wy0 := hb
  have Zwy0 : Hid (vg.heap.size + 0 ≤ wy0.heap.size) := by have h1 := hb.size; (try simp only [World.size_alloc, World.size_drew] at h1); show _ ≤ _; omega
  have HBwy0 := Lib.hid (below_trans HBvg.out hbp)
  have HVwy0 := Lib.hid (HVvg.out.trans (hbp.mono HVvg.out.size))
  have HXa1_ := Lib.hid (HXa1.out.on hbp); clear HXa1; have HXa1 := HXa1_; clear HXa1_
  have HXx1_ := Lib.hid (HXx1.out.on hbp); clear HXx1; have HXx1 := HXx1_; clear HXx1_
  have HSx0_ := Lib.hid (HSx0.out.keep (fun b hS => hbp.block b (by have q1 := hS.1; have q2 := hS.2; have zz0 := Zz0.out; have zz1 := Zz1.out; have zws0 := Zws0.out; have zws1 := Zws1.out; have zv0 := Zv0.out; have zwx0 := Zwx0.out; have zwx1 := Zwx1.out; have zvg := Zvg.out; omega))); clear HSx0; have HSx0 := HSx0_; clear HSx0_
  have HSx1_ := Lib.hid (eStore.okeep HSx1.out (fun b hS => hbp.block b (by have q1 := hS.1; have q2 := hS.2; have zz0 := Zz0.out; have zz1 := Zz1.out; have zws0 := Zws0.out; have zws1 := Zws1.out; have zv0 := Zv0.out; have zwx0 := Zwx0.out; have zwx1 := Zwx1.out; have zvg := Zvg.out; omega))); clear HSx1; have HSx1 := HSx1_; clear HSx1_
  clear hbp hb
  clear fa1_0 fa1_1 fx1_0 fx1_1
  have fa1_0 : wy0.cell? ⟨w.heap.size, 0, none⟩ = some (.int .i64 a1.1) := HXa1.out.cell 0
  have fa1_1 : wy0.cell? ⟨w.heap.size, 1, none⟩ = some (.slice Aa11 a1.2.length ca11) := HXa1.out.cell 1
  have fx1_0 : wy0.cell? ⟨wx1.heap.size, 0, none⟩ = some (.int .i64 a1.1) := HXx1.out.cell 0
  have fx1_1 : wy0.cell? ⟨wx1.heap.size, 1, none⟩ = some (.slice Ax11 a1.2.length cx11) := HXx1.out.cell 1
  go_wp2_with fail
  refine (eq_SInstr_c _ _ _ _ a0 a0 _ (by exact (HSx0.out.sl.more (fun b hS => (by have q2 := hS.2; show _ < _; have zz0 := Zz0.out; have zz1 := Zz1.out; have zws0 := Zws0.out; have zws1 := Zws1.out; have zv0 := Zv0.out; have zwx0 := Zwx0.out; have zwx1 := Zwx1.out; have zvg := Zvg.out; have zwy0 := Zwy0.out; omega)))) (by exact (HSy0.out.sl.more (fun b hS => (by have q2 := hS.2; show _ < _; have zz0 := Zz0.out; have zz1 := Zz1.out; have zws0 := Zws0.out; have zws1 := Zws1.out; have zv0 := Zv0.out; have zwx0 := Zwx0.out; have zwx1 := Zwx1.out; have zvg := Zvg.out; have zwy0 := Zwy0.out; omega))))).mono ?_
  rintro e u0 ⟨rfl, hb⟩
  rw [eq_SInstr_refl]
  clear HSy0
  have hbp : Below wy0.heap.size wy0 u0 := hb
  have Zu0 : Hid (wy0.heap.size + 0 ≤ u0.heap.size) := by have h1 := hb.size; (try simp only [World.size_alloc, World.size_drew] at h1); show _ ≤ _; omega
  have HBu0 := Lib.hid (below_trans HBwy0.out hbp)
  have HVu0 := Lib.hid (HVwy0.out.trans (hbp.mono HVwy0.out.size))
  have HXa1_ := Lib.hid (HXa1.out.on hbp); clear HXa1; have HXa1 := HXa1_; clear HXa1_
  have HXx1_ := Lib.hid (HXx1.out.on hbp); clear HXx1; have HXx1 := HXx1_; clear HXx1_
  have HSx0_ := Lib.hid (HSx0.out.keep (fun b hS => hbp.block b (by have q1 := hS.1; have q2 := hS.2; have zz0 := Zz0.out; have zz1 := Zz1.out; have zws0 := Zws0.out; have zws1 := Zws1.out; have zv0 := Zv0.out; have zwx0 := Zwx0.out; have zwx1 := Zwx1.out; have zvg := Zvg.out; have zwy0 := Zwy0.out; omega))); clear HSx0; have HSx0 := HSx0_; clear HSx0_
  have HSx1_ := Lib.hid (eStore.okeep HSx1.out (fun b hS => hbp.block b (by have q1 := hS.1; have q2 := hS.2; have zz0 := Zz0.out; have zz1 := Zz1.out; have zws0 := Zws0.out; have zws1 := Zws1.out; have zv0 := Zv0.out; have zwx0 := Zwx0.out; have zwx1 := Zwx1.out; have zvg := Zvg.out; have zwy0 := Zwy0.out; omega))); clear HSx1; have HSx1 := HSx1_; clear HSx1_
  clear hbp hb
  clear fa1_0 fa1_1 fx1_0 fx1_1
  have fa1_0 : u0.cell? ⟨w.heap.size, 0, none⟩ = some (.int .i64 a1.1) := HXa1.out.cell 0
  have fa1_1 : u0.cell? ⟨w.heap.size, 1, none⟩ = some (.slice Aa11 a1.2.length ca11) := HXa1.out.cell 1
  have fx1_0 : u0.cell? ⟨wx1.heap.size, 0, none⟩ = some (.int .i64 a1.1) := HXx1.out.cell 0
  have fx1_1 : u0.cell? ⟨wx1.heap.size, 1, none⟩ = some (.slice Ax11 a1.2.length cx11) := HXx1.out.cell 1
  go_wp2_with fail
  go_region_held3 (fun w' => w'.cell? ⟨w.heap.size, 0, none⟩ = some (.int .i64 a1.1) ∧ w'.cell? ⟨w.heap.size, 1, none⟩ = some (.slice Aa11 a1.2.length ca11) ∧ w'.cell? ⟨wx1.heap.size, 0, none⟩ = some (.int .i64 a1.1) ∧ w'.cell? ⟨wx1.heap.size, 1, none⟩ = some (.slice Ax11 a1.2.length cx11)) (first | (simp [go_sem, *]; done) | (refine ⟨?_, ?_, ?_, ?_⟩ <;> assumption))
    (first
      | (go_at_call 36; refine (to_Store _ a1 _ (by exact eStore.on H1.out (HBu0.out.drew)) HC1.out).mono ?_; rintro e wy1 ⟨esy1, rfl, ho, hb⟩; (have hR := eStore.read ho); (have HSy1 := Lib.hid (eStore.omore ho (Iv.mono (l' := u0.heap.size) (h' := wy1.heap.size) (by first | exact Nat.le_refl _ | (simp only [World.size_alloc, World.size_drew]; omega) | (simp; omega)) (Nat.le_refl _))); clear ho); (obtain ⟨Ay11, cy11, rfl, gy10, gy11⟩ := shape_Store hR); (clear gy10 gy11); (try clear hR); (have hbp : Below u0.heap.size u0 wy1 := below_trans ((Below.refl _ _).drew) hb); (have Zwy1 : Hid (u0.heap.size + 0 ≤ wy1.heap.size) := by have h1 := hb.size; (try simp only [World.size_alloc, World.size_drew] at h1); show _ ≤ _; omega); (have HBwy1 := Lib.hid (below_trans HBu0.out hbp)); (have HVwy1 := Lib.hid (HVu0.out.trans (hbp.mono HVu0.out.size))); (have HXa1_ := Lib.hid (HXa1.out.on hbp); clear HXa1; have HXa1 := HXa1_; clear HXa1_); (have HXx1_ := Lib.hid (HXx1.out.on hbp); clear HXx1; have HXx1 := HXx1_; clear HXx1_); (have HSx0_ := Lib.hid (HSx0.out.keep (fun b hS => hbp.block b (by have q1 := hS.1; have q2 := hS.2; have zz0 := Zz0.out; have zz1 := Zz1.out; have zws0 := Zws0.out; have zws1 := Zws1.out; have zv0 := Zv0.out; have zwx0 := Zwx0.out; have zwx1 := Zwx1.out; have zvg := Zvg.out; have zwy0 := Zwy0.out; have zu0 := Zu0.out; omega))); clear HSx0; have HSx0 := HSx0_; clear HSx0_); (have HSx1_ := Lib.hid (eStore.okeep HSx1.out (fun b hS => hbp.block b (by have q1 := hS.1; have q2 := hS.2; have zz0 := Zz0.out; have zz1 := Zz1.out; have zws0 := Zws0.out; have zws1 := Zws1.out; have zv0 := Zv0.out; have zwx0 := Zwx0.out; have zwx1 := Zwx1.out; have zvg := Zvg.out; have zwy0 := Zwy0.out; have zu0 := Zu0.out; omega))); clear HSx1; have HSx1 := HSx1_; clear HSx1_); (clear hbp hb); (clear fa1_0 fa1_1 fx1_0 fx1_1); (have fa1_0 : wy1.cell? ⟨w.heap.size, 0, none⟩ = some (.int .i64 a1.1) := HXa1.out.cell 0); (have fa1_1 : wy1.cell? ⟨w.heap.size, 1, none⟩ = some (.slice Aa11 a1.2.length ca11) := HXa1.out.cell 1); (have fx1_0 : wy1.cell? ⟨wx1.heap.size, 0, none⟩ = some (.int .i64 a1.1) := HXx1.out.cell 0); (have fx1_1 : wy1.cell? ⟨wx1.heap.size, 1, none⟩ = some (.slice Ax11 a1.2.length cx11) := HXx1.out.cell 1))
      | (go_at_call 39; refine (eq_Store_c _ _ a1 a1 _ (by exact (eStore.more (eStore.read HSx1.out) (fun b hS => (by have q2 := hS.2; show _ < _; have zz0 := Zz0.out; have zz1 := Zz1.out; have zws0 := Zws0.out; have zws1 := Zws1.out; have zv0 := Zv0.out; have zwx0 := Zwx0.out; have zwx1 := Zwx1.out; have zvg := Zvg.out; have zwy0 := Zwy0.out; have zu0 := Zu0.out; have zwy1 := Zwy1.out; omega)))) (by exact (eStore.more (eStore.read HSy1.out) (fun b hS => (by have q2 := hS.2; show _ < _; have zz0 := Zz0.out; have zz1 := Zz1.out; have zws0 := Zws0.out; have zws1 := Zws1.out; have zv0 := Zv0.out; have zwx0 := Zwx0.out; have zwx1 := Zwx1.out; have zvg := Zvg.out; have zwy0 := Zwy0.out; have zu0 := Zu0.out; have zwy1 := Zwy1.out; omega))))).mono ?_; rintro e u1 ⟨rfl, hb⟩; rw [eq_Store_refl]; (clear HSy1); (have hbp : Below wy1.heap.size wy1 u1 := hb); (have Zu1 : Hid (wy1.heap.size + 0 ≤ u1.heap.size) := by have h1 := hb.size; (try simp only [World.size_alloc, World.size_drew] at h1); show _ ≤ _; omega); (have HBu1 := Lib.hid (below_trans HBwy1.out hbp)); (have HVu1 := Lib.hid (HVwy1.out.trans (hbp.mono HVwy1.out.size))); (have HXa1_ := Lib.hid (HXa1.out.on hbp); clear HXa1; have HXa1 := HXa1_; clear HXa1_); (have HXx1_ := Lib.hid (HXx1.out.on hbp); clear HXx1; have HXx1 := HXx1_; clear HXx1_); (have HSx0_ := Lib.hid (HSx0.out.keep (fun b hS => hbp.block b (by have q1 := hS.1; have q2 := hS.2; have zz0 := Zz0.out; have zz1 := Zz1.out; have zws0 := Zws0.out; have zws1 := Zws1.out; have zv0 := Zv0.out; have zwx0 := Zwx0.out; have zwx1 := Zwx1.out; have zvg := Zvg.out; have zwy0 := Zwy0.out; have zu0 := Zu0.out; have zwy1 := Zwy1.out; omega))); clear HSx0; have HSx0 := HSx0_; clear HSx0_); (have HSx1_ := Lib.hid (eStore.okeep HSx1.out (fun b hS => hbp.block b (by have q1 := hS.1; have q2 := hS.2; have zz0 := Zz0.out; have zz1 := Zz1.out; have zws0 := Zws0.out; have zws1 := Zws1.out; have zv0 := Zv0.out; have zwx0 := Zwx0.out; have zwx1 := Zwx1.out; have zvg := Zvg.out; have zwy0 := Zwy0.out; have zu0 := Zu0.out; have zwy1 := Zwy1.out; omega))); clear HSx1; have HSx1 := HSx1_; clear HSx1_); (clear hbp hb); (clear fa1_0 fa1_1 fx1_0 fx1_1); (have fa1_0 : u1.cell? ⟨w.heap.size, 0, none⟩ = some (.int .i64 a1.1) := HXa1.out.cell 0); (have fa1_1 : u1.cell? ⟨w.heap.size, 1, none⟩ = some (.slice Aa11 a1.2.length ca11) := HXa1.out.cell 1); (have fx1_0 : u1.cell? ⟨wx1.heap.size, 0, none⟩ = some (.int .i64 a1.1) := HXx1.out.cell 0); (have fx1_1 : u1.cell? ⟨wx1.heap.size, 1, none⟩ = some (.slice Ax11 a1.2.length cx11) := HXx1.out.cell 1)))
  go_wp2
  go_ret
  exact ⟨rfl, HBu1.out⟩

end Go.Proofs.Ytfbgiipmbmdliaa
