/- What the proof of FnExactSameMultiConfig needs: contracts of the functions that it reaches, each once. -/
import Derived.Test.YtfbgiipmbmdliaaProg
import Derived.Test.YtfbgiipmbmdliaaQMem
import Derived.WalkKit
import Derived.WalkSpells
import Derived.Below
import Derived.LoopTactic
import Derived.Outline
import Derived.Deep.QuietTactic
import Derived.BigQuiet
import Derived.Deep.LoopGhost
import Derived.Handy
import Derived.Lib.Hide
import Derived.Shelf.Abstract
import Derived.StillTailTactics
import Derived.OwnWalk
import Derived.Maps.AppendAt
import Derived.RegionTactic
import Derived.Deep.RegionHeld3
namespace Go.Proofs.Ytfbgiipmbmdliaa
open Go.RowKit

/-- w' is w behind some draws. -/
def Dr (w w' : World) : Prop := ∃ m, w' = w.drewN m

theorem Dr.refl (w : World) : Dr w w := ⟨0, rfl⟩

theorem Dr.drewN {w w' : World} (h : Dr w w') (n : Nat) : Dr w (w'.drewN n) := by
  obtain ⟨m, rfl⟩ := h; exact ⟨m + n, World.drewN_drewN _ _ _⟩

theorem Dr.drew {w w' : World} (h : Dr w w') : Dr w w'.drew := h.drewN 1

theorem Dr.trans {a b c : World} (h : Dr a b) (k : Dr b c) : Dr a c := by
  obtain ⟨m, rfl⟩ := h; obtain ⟨n, rfl⟩ := k; exact ⟨m + n, World.drewN_drewN _ _ _⟩

theorem Dr.cell {w w' : World} (h : Dr w w') (p : Addr) : w'.cell? p = w.cell? p := by obtain ⟨m, rfl⟩ := h; rfl

theorem Dr.size {w w' : World} (h : Dr w w') : w'.heap.size = w.heap.size := by obtain ⟨m, rfl⟩ := h; rfl

theorem Dr.below {w w' : World} (h : Dr w w') : Below w.heap.size w w' := by obtain ⟨m, rfl⟩ := h; exact below_drewN (Below.refl _ _) m

theorem Dr.quiet {P : Program} {f : FuncId} {args : Array Value} {w : World} {n : Nat} {v : Value} (h : Calls P f args (w.drewN n) fun e w' => e = .returned v ∧ Dr (w.drewN n) w') : Calls P f args (w.drewN n) fun e w'' => e = .returned v ∧ ∃ m, w'' = w.drewN m :=
  Calls.quiet_of (h.mono fun _ _ ⟨he, hd⟩ => ⟨he, hd⟩)

theorem Dr.quiet0 {P : Program} {f : FuncId} {args : Array Value} {w : World} {n : Nat} {v : Value} (h : Calls P f args (w.drewN n) fun e w' => e = .returned v ∧ w.drewN n = w') : Calls P f args (w.drewN n) fun e w'' => e = .returned v ∧ ∃ m, w'' = w.drewN m :=
  Calls.quiet_of_same (h.mono fun _ _ ⟨he, hd⟩ => ⟨he, hd.symm⟩)

abbrev tTape : Type := (List Int) × (List Int)

abbrev eTape : Enc tTape := (ePr (eSl eInt) (eSl eInt))

theorem shape_Tape {w : World} {S : Nat → Prop} {es : List Value} {x : tTape} (h : eTape.R w S es x) : ∃ A0 c0 A1 c1, es = [.slice A0 x.1.length c0, .slice A1 x.2.length c1] ∧ Sl eInt w S A0 c0 x.1 ∧ Sl eInt w S A1 c1 x.2 := by
  obtain ⟨_, _, rfl, ⟨A0, c0, rfl, h0⟩, ⟨A1, c1, rfl, h1⟩⟩ := h
  exact ⟨A0, c0, A1, c1, rfl, h0, h1⟩

abbrev tMultiConfig : Type := Int × (List tTape)

abbrev eMultiConfig : Enc tMultiConfig := (ePr eInt (eSl eTape))

theorem shape_MultiConfig {w : World} {S : Nat → Prop} {es : List Value} {x : tMultiConfig} (h : eMultiConfig.R w S es x) : ∃ A1 c1, es = [.int .i64 x.1, .slice A1 x.2.length c1] ∧ I64 x.1 ∧ Sl eTape w S A1 c1 x.2 := by
  obtain ⟨_, _, rfl, ⟨rfl, h0⟩, ⟨A1, c1, rfl, h1⟩⟩ := h
  exact ⟨A1, c1, rfl, h0, h1⟩

/-- Equality of two lists, element by element. -/
def eqL {α : Type} (p : α → α → Bool) : List α → List α → Bool
  | [], [] => true
  | x :: xs, y :: ys => p x y && eqL p xs ys
  | _, _ => false

theorem eqL_refl {α : Type} {p : α → α → Bool} (hp : ∀ x, p x x = true) : ∀ xs : List α, eqL p xs xs = true
  | [] => rfl
  | x :: xs => by rw [eqL, hp, eqL_refl hp xs]; rfl

theorem eqL_len {α : Type} {p : α → α → Bool} : ∀ (xs ys : List α), xs.length ≠ ys.length → eqL p xs ys = false
  | [], [], h => absurd rfl h
  | [], _ :: _, _ => rfl
  | _ :: _, [], _ => rfl
  | x :: xs, y :: ys, h => by rw [eqL, eqL_len xs ys (by simpa using h)]; simp

theorem eqL_get {α : Type} {p : α → α → Bool} : ∀ (xs ys : List α) (k : Nat) (h1 : k < xs.length) (h2 : k < ys.length), p xs[k] ys[k] = false → eqL p xs ys = false
  | x :: xs, y :: ys, 0, _, _, h => by rw [eqL]; simp at h; rw [h]; rfl
  | x :: xs, y :: ys, k + 1, h1, h2, h => by rw [eqL, eqL_get xs ys k (by simpa using h1) (by simpa using h2) (by simpa using h)]; simp

theorem eqL_all {α : Type} {p : α → α → Bool} : ∀ (xs ys : List α), xs.length = ys.length → (∀ k (h1 : k < xs.length) (h2 : k < ys.length), p xs[k] ys[k] = true) → eqL p xs ys = true
  | [], [], _, _ => rfl
  | x :: xs, y :: ys, hl, h => by
    have e : p x y = true := h 0 (Nat.zero_lt_succ _) (Nat.zero_lt_succ _)
    have e' : eqL p xs ys = true := eqL_all xs ys (by simpa using hl) fun k h1 h2 => h (k + 1) (Nat.succ_lt_succ h1) (Nat.succ_lt_succ h2)
    rw [eqL, e, e']; rfl
  | [], _ :: _, hl, _ => by simp at hl
  | _ :: _, [], hl, _ => by simp at hl

theorem ret_bool {a b : Bool} (h : a = b) : Ending.returned (.bool a) = .returned (.bool b) := by rw [h]

def costL {α : Type} (f : α → Nat) (xs : List α) : Nat := xs.length + (xs.map f).sum

theorem costL_take {α : Type} (f : α → Nat) (xs : List α) (k : Nat) (h : k < xs.length) : ((xs.take (k + 1)).map f).sum = ((xs.take k).map f).sum + f xs[k] := by
  rw [List.take_succ_eq_append_getElem h, List.map_append, List.sum_append]; simp only [List.map_cons, List.map_nil, List.sum_cons, List.sum_nil, Nat.add_zero]

theorem cost_le {α : Type} (f : α → Nat) (xs : List α) (k : Nat) : ((xs.take k).map f).sum ≤ (xs.map f).sum := by
  have h : (xs.map f).sum = ((xs.take k).map f).sum + ((xs.drop k).map f).sum := by
    rw [← List.sum_append, ← List.map_append, List.take_append_drop]
  omega

/-- What the size functions of the laws answer. -/
def left (l : Int) (n : Nat) : Int := if l - n < 0 then -1 else l - n

theorem left_neg {l : Int} {n : Nat} (h : l - n < 0) : left l n = -1 := if_pos h

theorem left_pos {l : Int} {n : Nat} (h : ¬ l - n < 0) : left l n = l - n := if_neg h

def cost_L (xs : List Int) : Nat := xs.length

def cost_Tape (x : tTape) : Nat := cost_L x.1 + cost_L x.2

def cost_STape (xs : List tTape) : Nat := costL cost_Tape xs

def cost_MultiConfig (x : tMultiConfig) : Nat := cost_STape x.2

theorem sz_Int64S (A : Option Addr) (c : Nat) (xs : List Int) (l : Int) (w : World) (h : Sl eInt w (Old w) A c xs) (h0 : 0 ≤ l) (h1 : l ≤ 1048576) :
    Calls Try.prog 95 #[.slice A xs.length c, .int .i64 l] w fun e w' => e = .returned (.int .i64 (left l (cost_L xs))) ∧ Below w.heap.size w w' := by
  have hlen := h.len
  clear h
  unfold cost_L
  by_cases hl : l - xs.length < 0
  · rw [left_neg hl]
    go_enter Try.func95, Try.ntmps95
    go_wp2
    go_ret
    exact ⟨rfl, Below.refl _ _⟩
  · rw [left_pos hl]
    go_enter Try.func95, Try.ntmps95
    go_wp2
    go_ret
    exact ⟨rfl, Below.refl _ _⟩

set_option maxHeartbeats 1000000 in
theorem sz_Tape (es : List Value) (x : tTape) (l : Int) (w : World) (h : eTape.R w (Old w) es x) (h0 : 0 ≤ l) (h1 : l ≤ 1048576) :
    Calls Try.prog 40 #[.agg es.toArray, .int .i64 l] w fun e w' => e = .returned (.int .i64 (left l (cost_Tape x))) ∧ Below w.heap.size w w' := by
  obtain ⟨A0, c0, A1, c1, rfl, g0, g1⟩ := shape_Tape h
  have HT : Hid (cost_Tape x = cost_L x.1 + cost_L x.2) := rfl
  have HB0 := Lib.hid ((Below.refl w.heap.size w).alloc (Nat.le_refl _) (.cells #[.slice A0 x.1.length c0, .slice A1 x.2.length c1] 65))
  have K0 := Lib.hid (g0.on HB0.out); clear g0
  have K1 := Lib.hid (g1.on HB0.out); clear g1
  by_cases t0 : l - (cost_L x.1 : Nat) < 0
  · rw [left_neg (by rw [HT.out]; omega)]
    go_enter Try.func40, Try.ntmps40
    go_wp2_with fail
    refine (sz_Int64S _ _ x.1 _ _ K0.out (by omega) (by omega)).mono ?_
    rintro e w1 ⟨rfl, hb⟩
    rw [left_neg (by omega)]
    have HB1 := Lib.hid hb
    clear hb
    obtain ⟨hc, hf⟩ := bcell HB1.out
    go_wp2
    go_ret
    exact ⟨rfl, HB0.out.trans (HB1.out.mono HB0.out.size)⟩
  by_cases t1 : l - (cost_L x.1 : Nat) - (cost_L x.2 : Nat) < 0
  · rw [left_neg (by rw [HT.out]; omega)]
    go_enter Try.func40, Try.ntmps40
    go_wp2_with fail
    refine (sz_Int64S _ _ x.1 _ _ K0.out (by omega) (by omega)).mono ?_
    rintro e w1 ⟨rfl, hb⟩
    rw [left_pos (by omega)]
    have HB1 := Lib.hid hb
    clear hb
    obtain ⟨hc, hf⟩ := bcell HB1.out
    go_wp2_with fail
    refine (sz_Int64S _ _ x.2 _ _ (K1.out.on HB1.out) (by omega) (by omega)).mono ?_
    rintro e w2 ⟨rfl, hb⟩
    rw [left_neg (by omega)]
    have HB2 := Lib.hid (below_trans HB1.out hb)
    clear hb
    obtain ⟨hc, hf⟩ := bcell HB2.out
    go_wp2
    go_ret
    exact ⟨rfl, HB0.out.trans (HB2.out.mono HB0.out.size)⟩
  rw [left_pos (by rw [HT.out]; omega), show l - ((cost_Tape x : Nat) : Int) = l - (cost_L x.1 : Nat) - (cost_L x.2 : Nat) from by rw [HT.out]; first | done | omega]
  go_enter Try.func40, Try.ntmps40
  go_wp2_with fail
  refine (sz_Int64S _ _ x.1 _ _ K0.out (by omega) (by omega)).mono ?_
  rintro e w1 ⟨rfl, hb⟩
  rw [left_pos (by omega)]
  have HB1 := Lib.hid hb
  clear hb
  obtain ⟨hc, hf⟩ := bcell HB1.out
  go_wp2_with fail
  refine (sz_Int64S _ _ x.2 _ _ (K1.out.on HB1.out) (by omega) (by omega)).mono ?_
  rintro e w2 ⟨rfl, hb⟩
  rw [left_pos (by omega)]
  have HB2 := Lib.hid (below_trans HB1.out hb)
  clear hb
  obtain ⟨hc, hf⟩ := bcell HB2.out
  go_wp2
  go_ret
  exact ⟨rfl, HB0.out.trans (HB2.out.mono HB0.out.size)⟩

set_option maxHeartbeats 1000000 in
theorem sz_TapeS (A : Option Addr) (c : Nat) (xs : List tTape) (l : Int) (w : World) (h : Sl eTape w (Old w) A c xs) (h0 : 0 ≤ l) (h1 : l ≤ 1048576) :
    Calls Try.prog 86 #[.slice A xs.length c, .int .i64 l] w fun e w' => e = .returned (.int .i64 (left l (cost_STape xs))) ∧ Below w.heap.size w w' := by
  have hlen := h.len
  have H := Lib.hid h; clear h
  have HC : Hid (cost_STape xs = xs.length + (xs.map cost_Tape).sum) := rfl
  by_cases hl : l - xs.length < 0
  · rw [left_neg (by rw [HC.out]; omega)]
    go_enter Try.func86, Try.ntmps86
    go_wp2
    go_ret
    exact ⟨rfl, Below.refl _ _⟩
  · go_enter Try.func86, Try.ntmps86
    go_wp2
    go_loopw [1, 5] (fun s1 s5 wr => ∃ (k : Nat) (m : Int), k ≤ xs.length ∧ s5 = .int .i64 k ∧ s1 = .int .i64 m ∧ 0 ≤ m ∧ m ≤ 1048576 ∧ Hid (m = l - xs.length - ((xs.take k).map cost_Tape).sum) ∧ Hid (Below w.heap.size w wr)) (fun _ s5 _ => xs.length - (intOf s5).toNat)
    case atStart => exact ⟨0, _, Nat.zero_le _, rfl, rfl, by omega, by omega, by show _ = _; simp, Below.refl _ w⟩
    case round =>
      obtain ⟨k, m, hk, rfl, rfl, hm0, hm1, HM, BW⟩ := hrel
      by_cases hlt : k < xs.length
      · have hltz : (k : Int) < (xs.length : Int) := by omega
        obtain ⟨b, off, es, rfl, hb, hR, hc⟩ := H.out.at hlt
        have HS := Lib.hid (costL_take cost_Tape xs k hlt)
        have HLE := Lib.hid (cost_le cost_Tape xs (k + 1))
        have HC2 : Hid (∀ l, 0 ≤ l → l ≤ 1048576 → Calls Try.prog 40 #[.agg es.toArray, .int .i64 l] wr _) := fun l h0 h1 => sz_Tape es xs[k] l wr (eTape.on hR BW.out) h0 h1
        obtain ⟨Aq0, cq0, Aq1, cq1, rfl, gq0, gq1⟩ := shape_Tape hR
        have d0 : wr.cell? ⟨b, off + k * 2, none⟩ = some (.slice Aq0 xs[k].1.length cq0) := (below_olds BW.out _ hb).trans (hc 0 _ rfl)
        have d1 : wr.cell? ⟨b, off + k * 2 + 1, none⟩ = some (.slice Aq1 xs[k].2.length cq1) := (below_olds BW.out _ hb).trans (hc 1 _ rfl)
        clear hc gq0 gq1
        try clear hR
        generalize xs[k] = y at d0 d1 HC2 HS
        by_cases hz : m - cost_Tape y < 0
        · go_wp2_with fail
          refine (HC2.out m hm0 hm1).mono ?_
          rintro e w2 ⟨rfl, hb2⟩
          rw [left_neg (by omega)]
          go_wp2
          go_ret
          exact ⟨by rw [left_neg (by rw [HC.out]; have := HM.out; have := HS.out; have := HLE.out; omega)]; rfl, below_trans BW.out hb2⟩
        · have hz1 : 0 ≤ m - cost_Tape y := by omega
          go_wp2_with fail
          refine (HC2.out m hm0 hm1).mono ?_
          rintro e w2 ⟨rfl, hb2⟩
          rw [left_pos (by omega)]
          go_wp2
          go_roundw
          case rel => exact ⟨k + 1, m - cost_Tape y, by omega, by go_num, rfl, by omega, by omega, by show _ = _; have := HM.out; have := HS.out; omega, below_trans BW.out hb2⟩
          case measure => simp [intOf]; omega
      · have hltz : ¬ (k : Int) < (xs.length : Int) := by omega
        obtain rfl : k = xs.length := by omega
        go_wp2
        go_ret
        have h2 := HM.out
        rw [List.take_length] at h2
        exact ⟨by rw [left_pos (by rw [HC.out]; omega), HC.out, show l - ((xs.length + (xs.map cost_Tape).sum : Nat) : Int) = m from by omega]; rfl, BW.out⟩

set_option maxHeartbeats 1000000 in
theorem sz_MultiConfig (es : List Value) (x : tMultiConfig) (l : Int) (w : World) (h : eMultiConfig.R w (Old w) es x) (h0 : 0 ≤ l) (h1 : l ≤ 1048576) :
    Calls Try.prog 25 #[.agg es.toArray, .int .i64 l] w fun e w' => e = .returned (.int .i64 (left l (cost_MultiConfig x))) ∧ Below w.heap.size w w' := by
  obtain ⟨A1, c1, rfl, g0, g1⟩ := shape_MultiConfig h
  have HT : Hid (cost_MultiConfig x = cost_STape x.2) := rfl
  have HB0 := Lib.hid ((Below.refl w.heap.size w).alloc (Nat.le_refl _) (.cells #[.int .i64 x.1, .slice A1 x.2.length c1] 40))
  have K1 := Lib.hid (g1.on HB0.out); clear g1
  clear g0
  by_cases t0 : l - (cost_STape x.2 : Nat) < 0
  · rw [left_neg (by rw [HT.out]; omega)]
    go_enter Try.func25, Try.ntmps25
    go_wp2_with fail
    refine (sz_TapeS _ _ x.2 _ _ K1.out (by omega) (by omega)).mono ?_
    rintro e w1 ⟨rfl, hb⟩
    rw [left_neg (by omega)]
    have HB1 := Lib.hid hb
    clear hb
    obtain ⟨hc, hf⟩ := bcell HB1.out
    go_wp2
    go_ret
    exact ⟨rfl, HB0.out.trans (HB1.out.mono HB0.out.size)⟩
  rw [left_pos (by rw [HT.out]; omega), show l - ((cost_MultiConfig x : Nat) : Int) = l - (cost_STape x.2 : Nat) from by rw [HT.out]; first | done | omega]
  go_enter Try.func25, Try.ntmps25
  go_wp2_with fail
  refine (sz_TapeS _ _ x.2 _ _ K1.out (by omega) (by omega)).mono ?_
  rintro e w1 ⟨rfl, hb⟩
  rw [left_pos (by omega)]
  have HB1 := Lib.hid hb
  clear hb
  obtain ⟨hc, hf⟩ := bcell HB1.out
  go_wp2
  go_ret
  exact ⟨rfl, HB0.out.trans (HB1.out.mono HB0.out.size)⟩

def eq_i (x y : Int) : Bool := x == y

def eq_L (x y : List Int) : Bool := eqL eq_i x y

theorem eq_i_refl (x : Int) : eq_i x x = true := by simp [eq_i]

theorem eq_L_refl (x : List Int) : eq_L x x = true := eqL_refl eq_i_refl x

def eq_Tape (x y : tTape) : Bool := eq_L x.1 y.1 && eq_L x.2 y.2

theorem eq_Tape_refl (x : tTape) : eq_Tape x x = true := by unfold eq_Tape; simp [eq_L_refl]

def eq_STape (x y : List tTape) : Bool := eqL eq_Tape x y

theorem eq_STape_refl (x : List tTape) : eq_STape x x = true := eqL_refl eq_Tape_refl x

def eq_MultiConfig (x y : tMultiConfig) : Bool := eq_i x.1 y.1 && eq_STape x.2 y.2

theorem eq_MultiConfig_refl (x : tMultiConfig) : eq_MultiConfig x x = true := by unfold eq_MultiConfig; simp [eq_STape_refl, eq_i_refl]

set_option maxRecDepth 100000 in
set_option maxHeartbeats 1000000 in
theorem eq_L_c (A A' : Option Addr) (c c' : Nat) (xs ys : List Int) (w : World) (h : Sl eInt w (Old w) A c xs) (h' : Sl eInt w (Old w) A' c' ys) :
    Calls Try.prog 44 #[.slice A xs.length c, .slice A' ys.length c'] w fun e w' => e = .returned (.bool (eq_L xs ys)) ∧ Below w.heap.size w w' := by
  have hlen := h.len
  have hlen' := h'.len
  unfold eq_L
  by_cases hne : xs.length = ys.length
  · have hne' : ((xs.length : Int) != (ys.length : Int)) = false := by simp [hne]
    have HE := Lib.hid hne; clear hne
    have H := Lib.hid h; clear h
    have H' := Lib.hid h'; clear h'
    go_enter Try.func44, Try.ntmps44
    go_wp2
    clear hne'
    go_loopw [5] (fun s5 wr => ∃ k : Nat, k ≤ xs.length ∧ s5 = .int .i64 k ∧ Hid (Below w.heap.size w wr) ∧ Hid (∀ j (h1 : j < xs.length) (h2 : j < ys.length), j < k → eq_i xs[j] ys[j] = true)) (fun s5 _ => xs.length - (intOf s5).toNat)
    case atStart => exact ⟨0, Nat.zero_le _, rfl, Below.refl _ _, fun j _ _ h => absurd h (Nat.not_lt_zero _)⟩
    case round =>
      obtain ⟨k, hk, rfl, HL, HN⟩ := hrel
      by_cases hlt : k < xs.length
      · have hltz : (k : Int) < (xs.length : Int) := by omega
        have hlt' : k < ys.length := by have := HE.out; omega
        have hltz' : (k : Int) < (ys.length : Int) := by omega
        obtain ⟨bp, offp, esp, rfl, hbp, hR, hc⟩ := H.out.at1 rfl hlt
        obtain ⟨rfl, gp⟩ := hR
        have dp0 : wr.cell? ⟨bp, offp + k, none⟩ = some (.int .i64 xs[k]) := (below_olds HL.out _ hbp).trans (hc _ rfl)
        clear hc gp
        try clear hR
        obtain ⟨bq, offq, esq, rfl, hbq, hR, hc⟩ := H'.out.at1 rfl hlt'
        obtain ⟨rfl, gq⟩ := hR
        have dq0 : wr.cell? ⟨bq, offq + k, none⟩ = some (.int .i64 ys[k]) := (below_olds HL.out _ hbq).trans (hc _ rfl)
        clear hc gq
        try clear hR
        have HQ0 : Hid (eq_i xs[k] ys[k] = false → eqL eq_i xs ys = false) := eqL_get xs ys k hlt hlt'
        have HQ1 : Hid (eq_i xs[k] ys[k] = true → ∀ j (h1 : j < xs.length) (h2 : j < ys.length), j < k + 1 → eq_i xs[j] ys[j] = true) := fun e j h1 h2 hj => by
          by_cases ej : j = k
          · subst ej; exact e
          · exact HN.out j h1 h2 (by omega)
        generalize xs[k] = x at dp0 HQ0 HQ1
        generalize ys[k] = y at dq0 HQ0 HQ1
        cases hq : eq_i x y
        · have hq' : (x != y) = true := by simp [eq_i] at hq; simp [hq]
          go_wp2_with fail
          go_quiet (fail)
          go_wp2
          go_ret
          exact ⟨by rw [HQ0.out hq]; rfl, below_drewN HL.out _⟩
        · have hq' : (x != y) = false := by simp [eq_i] at hq; simp [hq]
          go_wp2_with fail
          go_quiet (fail)
          go_wp2
          go_roundw
          case rel => exact ⟨k + 1, by omega, by go_num, below_drewN HL.out _, HQ1.out hq⟩
          case measure => simp [intOf]; omega
      · have hltz : ¬ (k : Int) < (xs.length : Int) := by omega
        obtain rfl : k = xs.length := by omega
        go_wp2
        go_ret
        exact ⟨by rw [eqL_all xs ys HE.out fun j h1 h2 => HN.out j h1 h2 h1]; rfl, HL.out⟩
  · have hne' : ((xs.length : Int) != (ys.length : Int)) = true := by simp; omega
    rw [eqL_len xs ys hne]
    clear h h' hne
    go_enter Try.func44, Try.ntmps44
    go_wp2
    go_ret
    exact ⟨rfl, Below.refl _ _⟩

set_option maxHeartbeats 1000000 in
theorem eq_Tape_c (es es' : List Value) (x y : tTape) (w : World) (h : eTape.R w (Old w) es x) (h' : eTape.R w (Old w) es' y) :
    Calls Try.prog 45 #[.agg es.toArray, .agg es'.toArray] w fun e w' => e = .returned (.bool (eq_Tape x y)) ∧ Below w.heap.size w w' := by
  obtain ⟨Ax0, cx0, Ax1, cx1, rfl, gx0, gx1⟩ := shape_Tape h
  obtain ⟨Ay0, cy0, Ay1, cy1, rfl, gy0, gy1⟩ := shape_Tape h'
  have HB0 := Lib.hid (((Below.refl w.heap.size w).alloc (Nat.le_refl _) (.cells #[.slice Ax0 x.1.length cx0, .slice Ax1 x.2.length cx1] 69)).alloc (by simp) (.cells #[.slice Ay0 y.1.length cy0, .slice Ay1 y.2.length cy1] 69))
  have HX0 := Lib.hid (gx0.on HB0.out); clear gx0
  have HY0 := Lib.hid (gy0.on HB0.out); clear gy0
  have HX1 := Lib.hid (gx1.on HB0.out); clear gx1
  have HY1 := Lib.hid (gy1.on HB0.out); clear gy1
  cases t0 : eq_L x.1 y.1
  · rw [show eq_Tape x y = false from by unfold eq_Tape; simp [t0]]
    go_enter Try.func45, Try.ntmps45
    go_wp2_with fail
    refine (eq_L_c _ _ _ _ x.1 y.1 _ HX0.out HY0.out).mono ?_
    rintro e w1 ⟨rfl, hb⟩
    rw [t0]
    have HB1 := Lib.hid hb
    clear hb
    obtain ⟨hc, hf⟩ := bcell HB1.out
    go_wp2
    go_ret
    exact ⟨rfl, below_trans HB0.out HB1.out⟩
  cases t1 : eq_L x.2 y.2
  · rw [show eq_Tape x y = false from by unfold eq_Tape; simp [t0, t1]]
    go_enter Try.func45, Try.ntmps45
    go_wp2_with fail
    refine (eq_L_c _ _ _ _ x.1 y.1 _ HX0.out HY0.out).mono ?_
    rintro e w1 ⟨rfl, hb⟩
    rw [t0]
    have HB1 := Lib.hid hb
    clear hb
    obtain ⟨hc, hf⟩ := bcell HB1.out
    go_wp2_with fail
    refine (eq_L_c _ _ _ _ x.2 y.2 _ (HX1.out.on HB1.out) (HY1.out.on HB1.out)).mono ?_
    rintro e w2 ⟨rfl, hb⟩
    rw [t1]
    have HB2 := Lib.hid (below_trans HB1.out hb)
    clear hb
    obtain ⟨hc, hf⟩ := bcell HB2.out
    go_wp2
    go_ret
    exact ⟨rfl, below_trans HB0.out HB2.out⟩
  rw [show eq_Tape x y = true from by unfold eq_Tape; simp [t0, t1]]
  go_enter Try.func45, Try.ntmps45
  go_wp2_with fail
  refine (eq_L_c _ _ _ _ x.1 y.1 _ HX0.out HY0.out).mono ?_
  rintro e w1 ⟨rfl, hb⟩
  rw [t0]
  have HB1 := Lib.hid hb
  clear hb
  obtain ⟨hc, hf⟩ := bcell HB1.out
  go_wp2_with fail
  refine (eq_L_c _ _ _ _ x.2 y.2 _ (HX1.out.on HB1.out) (HY1.out.on HB1.out)).mono ?_
  rintro e w2 ⟨rfl, hb⟩
  rw [t1]
  have HB2 := Lib.hid (below_trans HB1.out hb)
  clear hb
  obtain ⟨hc, hf⟩ := bcell HB2.out
  go_wp2
  go_ret
  exact ⟨rfl, below_trans HB0.out HB2.out⟩

set_option maxRecDepth 100000 in
set_option maxHeartbeats 1000000 in
theorem eq_STape_c (A A' : Option Addr) (c c' : Nat) (xs ys : List tTape) (w : World) (h : Sl eTape w (Old w) A c xs) (h' : Sl eTape w (Old w) A' c' ys) :
    Calls Try.prog 91 #[.slice A xs.length c, .slice A' ys.length c'] w fun e w' => e = .returned (.bool (eq_STape xs ys)) ∧ Below w.heap.size w w' := by
  have hlen := h.len
  have hlen' := h'.len
  unfold eq_STape
  by_cases hne : xs.length = ys.length
  · have hne' : ((xs.length : Int) != (ys.length : Int)) = false := by simp [hne]
    have HE := Lib.hid hne; clear hne
    have H := Lib.hid h; clear h
    have H' := Lib.hid h'; clear h'
    go_enter Try.func91, Try.ntmps91
    go_wp2
    clear hne'
    go_loopw [5] (fun s5 wr => ∃ k : Nat, k ≤ xs.length ∧ s5 = .int .i64 k ∧ Hid (Below w.heap.size w wr) ∧ Hid (∀ j (h1 : j < xs.length) (h2 : j < ys.length), j < k → eq_Tape xs[j] ys[j] = true)) (fun s5 _ => xs.length - (intOf s5).toNat)
    case atStart => exact ⟨0, Nat.zero_le _, rfl, Below.refl _ _, fun j _ _ h => absurd h (Nat.not_lt_zero _)⟩
    case round =>
      obtain ⟨k, hk, rfl, HL, HN⟩ := hrel
      by_cases hlt : k < xs.length
      · have hltz : (k : Int) < (xs.length : Int) := by omega
        have hlt' : k < ys.length := by have := HE.out; omega
        have hltz' : (k : Int) < (ys.length : Int) := by omega
        obtain ⟨bp, offp, esp, rfl, hbp, hR, hc⟩ := H.out.at hlt
        have HRp := Lib.hid (eTape.on hR HL.out)
        obtain ⟨Ap0, cp0, Ap1, cp1, rfl, gp0, gp1⟩ := shape_Tape hR
        have dp0 : wr.cell? ⟨bp, offp + k * 2, none⟩ = some (.slice Ap0 xs[k].1.length cp0) := (below_olds HL.out _ hbp).trans (hc 0 _ rfl)
        have dp1 : wr.cell? ⟨bp, offp + k * 2 + 1, none⟩ = some (.slice Ap1 xs[k].2.length cp1) := (below_olds HL.out _ hbp).trans (hc 1 _ rfl)
        clear hc gp0 gp1
        try clear hR
        obtain ⟨bq, offq, esq, rfl, hbq, hR, hc⟩ := H'.out.at hlt'
        have HRq := Lib.hid (eTape.on hR HL.out)
        obtain ⟨Aq0, cq0, Aq1, cq1, rfl, gq0, gq1⟩ := shape_Tape hR
        have dq0 : wr.cell? ⟨bq, offq + k * 2, none⟩ = some (.slice Aq0 ys[k].1.length cq0) := (below_olds HL.out _ hbq).trans (hc 0 _ rfl)
        have dq1 : wr.cell? ⟨bq, offq + k * 2 + 1, none⟩ = some (.slice Aq1 ys[k].2.length cq1) := (below_olds HL.out _ hbq).trans (hc 1 _ rfl)
        clear hc gq0 gq1
        try clear hR
        have HQ0 : Hid (eq_Tape xs[k] ys[k] = false → eqL eq_Tape xs ys = false) := eqL_get xs ys k hlt hlt'
        have HQ1 : Hid (eq_Tape xs[k] ys[k] = true → ∀ j (h1 : j < xs.length) (h2 : j < ys.length), j < k + 1 → eq_Tape xs[j] ys[j] = true) := fun e j h1 h2 hj => by
          by_cases ej : j = k
          · subst ej; exact e
          · exact HN.out j h1 h2 (by omega)
        generalize xs[k] = x at dp0 dp1 HRp HQ0 HQ1
        generalize ys[k] = y at dq0 dq1 HRq HQ0 HQ1
        go_wp2_with fail
        go_still_tail 8, (by kernel_rfl)
        cases hq : eq_Tape x y
        · go_wp2_with fail
          refine (eq_Tape_c _ _ x y _ (eTape.on HRp.out (Below.refl _ _).drew) (eTape.on HRq.out (Below.refl _ _).drew)).mono ?_
          rintro e w2 ⟨rfl, hb2⟩
          rw [hq]
          go_wp2
          go_ret
          exact ⟨by rw [HQ0.out hq]; rfl, HL.out.drew.trans (hb2.mono HL.out.size)⟩
        · go_wp2_with fail
          refine (eq_Tape_c _ _ x y _ (eTape.on HRp.out (Below.refl _ _).drew) (eTape.on HRq.out (Below.refl _ _).drew)).mono ?_
          rintro e w2 ⟨rfl, hb2⟩
          rw [hq]
          go_wp2
          go_roundw
          case rel => exact ⟨k + 1, by omega, by go_num, HL.out.drew.trans (hb2.mono HL.out.size), HQ1.out hq⟩
          case measure => simp [intOf]; omega
      · have hltz : ¬ (k : Int) < (xs.length : Int) := by omega
        obtain rfl : k = xs.length := by omega
        go_wp2
        go_ret
        exact ⟨by rw [eqL_all xs ys HE.out fun j h1 h2 => HN.out j h1 h2 h1]; rfl, HL.out⟩
  · have hne' : ((xs.length : Int) != (ys.length : Int)) = true := by simp; omega
    rw [eqL_len xs ys hne]
    clear h h' hne
    go_enter Try.func91, Try.ntmps91
    go_wp2
    go_ret
    exact ⟨rfl, Below.refl _ _⟩

set_option maxHeartbeats 1000000 in
theorem eq_MultiConfig_c (es es' : List Value) (x y : tMultiConfig) (w : World) (h : eMultiConfig.R w (Old w) es x) (h' : eMultiConfig.R w (Old w) es' y) :
    Calls Try.prog 29 #[.agg es.toArray, .agg es'.toArray] w fun e w' => e = .returned (.bool (eq_MultiConfig x y)) ∧ Below w.heap.size w w' := by
  obtain ⟨Ax1, cx1, rfl, gx0, gx1⟩ := shape_MultiConfig h
  obtain ⟨Ay1, cy1, rfl, gy0, gy1⟩ := shape_MultiConfig h'
  have HB0 := Lib.hid (((Below.refl w.heap.size w).alloc (Nat.le_refl _) (.cells #[.int .i64 x.1, .slice Ax1 x.2.length cx1] 45)).alloc (by simp) (.cells #[.int .i64 y.1, .slice Ay1 y.2.length cy1] 45))
  have HX1 := Lib.hid (gx1.on HB0.out); clear gx1
  have HY1 := Lib.hid (gy1.on HB0.out); clear gy1
  clear gx0 gy0
  cases t0 : eq_i x.1 y.1
  · rw [show eq_MultiConfig x y = false from by unfold eq_MultiConfig; simp [t0]]
    have t0' : (x.1 != y.1) = true := by simp only [eq_i] at t0; simp [bne, t0]
    go_enter Try.func29, Try.ntmps29
    go_wp2
    go_ret
    exact ⟨rfl, HB0.out⟩
  have t0' : (x.1 != y.1) = false := by simp only [eq_i] at t0; simp [bne, t0]
  cases t1 : eq_STape x.2 y.2
  · rw [show eq_MultiConfig x y = false from by unfold eq_MultiConfig; simp [t0, t1]]
    go_enter Try.func29, Try.ntmps29
    go_wp2_with fail
    refine (eq_STape_c _ _ _ _ x.2 y.2 _ HX1.out HY1.out).mono ?_
    rintro e w1 ⟨rfl, hb⟩
    rw [t1]
    have HB1 := Lib.hid hb
    clear hb
    obtain ⟨hc, hf⟩ := bcell HB1.out
    go_wp2
    go_ret
    exact ⟨rfl, below_trans HB0.out HB1.out⟩
  rw [show eq_MultiConfig x y = true from by unfold eq_MultiConfig; simp [t0, t1]]
  go_enter Try.func29, Try.ntmps29
  go_wp2_with fail
  refine (eq_STape_c _ _ _ _ x.2 y.2 _ HX1.out HY1.out).mono ?_
  rintro e w1 ⟨rfl, hb⟩
  rw [t1]
  have HB1 := Lib.hid hb
  clear hb
  obtain ⟨hc, hf⟩ := bcell HB1.out
  go_wp2
  go_ret
  exact ⟨rfl, below_trans HB0.out HB1.out⟩

theorem cost_mem {α : Type} (f : α → Nat) (xs : List α) (k : Nat) (h : k < xs.length) : f xs[k] + xs.length ≤ costL f xs := by
  have h1 := costL_take f xs k h
  have h2 := cost_le f xs (k + 1)
  unfold costL
  omega

theorem info_impl_Int64 : (Try.prog.info? 2).map (fun i => (i.zero, i.size, i.bytes)) = some (some (.int .i64 0), 1, 8) := by kernel_rfl

set_option maxHeartbeats 1000000 in
theorem to_Int64S (A : Option Addr) (c : Nat) (xs : List Int) (w : World) (h : Sl eInt w (Old w) A c xs) (hsm : cost_L xs ≤ 1048576) :
    Calls Try.prog 52 #[.slice A xs.length c] w fun e w' => ∃ A' c', e = .returned (.slice A' xs.length c') ∧ So eInt w' (Fr w w') A' c' xs ∧ Below w.heap.size w w' := by
  obtain ⟨i0, hi0, hz0, hz1, hz2⟩ := info_parts info_impl_Int64
  have hlen := h.len
  have hsl : xs.length ≤ 1048576 := by exact hsm
  have HCO := Lib.hid hsm; clear hsm
  have H := Lib.hid h; clear h
  go_enter Try.func52, Try.ntmps52
  go_wp2_with (at_make; refine wpList_make_full _ rfl _ _ 23 rfl w.heap.size 2 i0 _ 1 Try.underlying23 hi0 hz0 hz1 _ _ _ _ xs.length rfl rfl rfl rfl (by rw [hz2]; omega) (by unfold maxLen; omega) (Nat.le_refl _) ?_)
  intro w1 hown hgrow
  obtain ⟨cur, hB, hs, ht, hn1, hn2⟩ := Blk.of_own hown
  have HB := Lib.hid hB; clear hB
  have HS : Hid (cur.size = xs.length) := by show _ = _; omega
  have hbel : Below w.heap.size w w1 := (Below.refl _ _).grown hgrow (Nat.le_refl _) (by simp)
  have HL := Lib.hid hbel; clear hbel
  clear hs ht hn1 hn2 hgrow hown hi0 hz0 hz1 hz2
  go_wp2_with fail
  go_loopw [4] (fun s4 wr => ∃ (k : Nat) (cur : Array Value), k ≤ xs.length ∧ s4 = .int .i64 k ∧ Hid (Below w.heap.size w wr) ∧ Hid (Blk wr w.heap.size 2 cur) ∧ Hid (cur.size = xs.length) ∧ Hid (Filled eInt wr w.heap.size (fun b => w.heap.size ≤ b) cur k xs)) (fun s4 _ => xs.length - (intOf s4).toNat)
  case atStart => exact ⟨0, cur, Nat.zero_le _, rfl, HL, HB, HS, Filled.zero⟩
  case round =>
    clear HB HS HL
    obtain ⟨k, cur, hk, rfl, HL, HB, HS, HF⟩ := hrel
    by_cases hlt : k < xs.length
    · have hltz : (k : Int) < (xs.length : Int) := by omega
      obtain ⟨b, off, es, rfl, hb, hR, hc⟩ := H.out.at1 rfl hlt
      have HX : Hid (xs[k]? = some xs[k]) := List.getElem?_eq_getElem hlt
      obtain ⟨rfl, gq⟩ := hR
      have d0 : wr.cell? ⟨b, off + k, none⟩ = some (.int .i64 xs[k]) := (below_olds HL.out _ hb).trans (hc _ rfl)
      have HR := Lib.hid gq
      clear hc gq
      try clear hR
      obtain ⟨v0, hv0⟩ : ∃ v, cur[k]? = some v := get_some (by have := HS.out; omega)
      have HV0 := Lib.hid hv0; clear hv0
      generalize xs[k] = y at d0 HX HR
      have e0 : wr.cell? ⟨w.heap.size, k, none⟩ = some v0 := (HB.out.cell _).trans HV0.out
      have f0 := HB.out.frozen (k)
      go_wp2
      go_roundw
      case rel =>
        exact ⟨k + 1, setAll cur k [_], by omega, by go_num, HL.out.setCell (Nat.le_refl _) _, HB.out.set _ _, (size_setAll _ _ _).trans HS.out, by
          have := (HF.out.set k (.int .i64 y)).step (w' := wr.setCell ⟨w.heap.size, k, none⟩ (.int .i64 y)) (T0 := fun _ => False) (es := [.int .i64 y]) (fun _ _ _ => rfl) (Nat.le_refl _) HX.out ⟨rfl, HR.out⟩ (fun _ h => h.elim) (by have := HS.out; show (k + 1) * 1 ≤ _; omega)
          rw [show k * eInt.size = k from Nat.mul_one k] at this
          exact this⟩
      case measure => simp [intOf]; omega
    · have hltz : ¬ (k : Int) < (xs.length : Int) := by omega
      obtain rfl : k = xs.length := by omega
      go_wp2
      go_ret
      exact ⟨_, _, rfl, HF.out.soFr HB.out (Nat.le_refl _) (by unfold maxLen; omega), HL.out⟩

theorem info_impl_Tape : (Try.prog.info? 69).map (fun i => (i.zero, i.size, i.bytes)) = some (some (.agg #[.slice none 0 0, .slice none 0 0]), 2, 48) := by kernel_rfl

set_option maxRecDepth 100000 in
set_option maxHeartbeats 2000000 in
theorem to_Tape (es : List Value) (x : tTape) (w : World) (h : eTape.R w (Old w) es x) (hcost : cost_Tape x ≤ 1048576) :
    Calls Try.prog 42 #[.agg es.toArray] w fun e w' => ∃ es', e = .returned (.agg es'.toArray) ∧ eTape.O w' (Fr w w') es' x ∧ Below w.heap.size w w' := by
  obtain ⟨A0, c0, A1, c1, rfl, g0, g1⟩ := shape_Tape h
  have HC : Hid (cost_Tape x ≤ 1048576) := hcost
  unfold cost_Tape at hcost
  have HB0 : Hid (Below w.heap.size w (((w.alloc (.cells #[.slice A0 x.1.length c0, .slice A1 x.2.length c1] 65)).alloc (.cells #[.slice none 0 0, .slice none 0 0] 69)).alloc (.cells #[.slice none 0 0, .slice none 0 0] 69))) := by show Below _ _ _; go_grown
  have hc0 : cost_L x.1 ≤ 1048576 := by omega
  have HC0 := Lib.hid hc0; clear hc0
  have K0 := Lib.hid g0; clear g0
  have hc1 : cost_L x.2 ≤ 1048576 := by omega
  have HC1 := Lib.hid hc1; clear hc1
  have K1 := Lib.hid g1; clear g1
  clear hcost h
  go_enter Try.func42, Try.ntmps42
  go_wp2_with fail
  refine (to_Int64S _ _ x.1 _ (by exact K0.out.on HB0.out) HC0.out).mono ?_
  rintro e w1 ⟨A0', c0', rfl, hs, hb⟩
  have HS1 := Lib.hid hs; clear hs
  have BL1 := Lib.hid (HB0.out.trans (hb.mono HB0.out.size))
  have HBW1 := Lib.hid hb; clear hb
  have HX := Lib.hid ((((Blk.new w 65 #[.slice A0 x.1.length c0, .slice A1 x.2.length c1]).alloc _).alloc _).on HBW1.out)
  have HR := Lib.hid (((Blk.new1 w _ 69 #[.slice none 0 0, .slice none 0 0]).alloc _).on HBW1.out)
  have HO : Hid (Blk w1 (w.heap.size + 1 + 1) 69 #[.slice none 0 0, .slice none 0 0]) := (Blk.new2 w _ _ 69 #[.slice none 0 0, .slice none 0 0]).on HBW1.out
  have x0 : w1.cell? ⟨w.heap.size, 0, none⟩ = some (.slice A0 x.1.length c0) := HX.out.cell 0
  have o0 : w1.cell? ⟨w.heap.size + 1 + 1, 0, none⟩ = some (.slice none 0 0) := HO.out.cell 0
  have r0 : w1.cell? ⟨w.heap.size + 1, 0, none⟩ = some (.slice none 0 0) := HR.out.cell 0
  have p0 : w1.frozen? ⟨w.heap.size + 1 + 1, 0, none⟩ = false := HO.out.frozen 0
  have q0 : w1.frozen? ⟨w.heap.size + 1, 0, none⟩ = false := HR.out.frozen 0
  have x1 : w1.cell? ⟨w.heap.size, 1, none⟩ = some (.slice A1 x.2.length c1) := HX.out.cell 1
  have o1 : w1.cell? ⟨w.heap.size + 1 + 1, 1, none⟩ = some (.slice none 0 0) := HO.out.cell 1
  have r1 : w1.cell? ⟨w.heap.size + 1, 1, none⟩ = some (.slice none 0 0) := HR.out.cell 1
  have p1 : w1.frozen? ⟨w.heap.size + 1 + 1, 1, none⟩ = false := HO.out.frozen 1
  have q1 : w1.frozen? ⟨w.heap.size + 1, 1, none⟩ = false := HR.out.frozen 1
  go_wp2_with fail
  refine (to_Int64S _ _ x.2 _ (by exact K1.out.on (BL1.out.setCell (p := ⟨w.heap.size + 1 + 1, 0, none⟩) (by show w.heap.size ≤ w.heap.size + 1 + 1; omega) _)) HC1.out).mono ?_
  rintro e w2 ⟨A1', c1', rfl, hs, hb⟩
  have HS2 := Lib.hid hs; clear hs
  have BL2 := Lib.hid ((BL1.out.setCell (p := ⟨w.heap.size + 1 + 1, 0, none⟩) (by show w.heap.size ≤ w.heap.size + 1 + 1; omega) _).trans (hb.mono (BL1.out.setCell (p := ⟨w.heap.size + 1 + 1, 0, none⟩) (by show w.heap.size ≤ w.heap.size + 1 + 1; omega) _).size))
  have HBW2 := Lib.hid hb; clear hb
  have HX' := Lib.hid ((HX.out.far (p := ⟨w.heap.size + 1 + 1, 0, none⟩) (by show w.heap.size ≠ w.heap.size + 1 + 1; omega) _).on HBW2.out); clear HX; have HX := HX'; clear HX'
  have HR' := Lib.hid ((HR.out.far (p := ⟨w.heap.size + 1 + 1, 0, none⟩) (by show w.heap.size + 1 ≠ w.heap.size + 1 + 1; omega) _).on HBW2.out); clear HR; have HR := HR'; clear HR'
  have HO' : Hid (Blk w2 (w.heap.size + 1 + 1) 69 #[.slice A0' x.1.length c0', .slice none 0 0]) := (HO.out.set _ _).on HBW2.out; clear HO; have HO := HO'; clear HO'
  clear x0 o0 r0 p0 q0 x1 o1 r1 p1 q1
  have x0 : w2.cell? ⟨w.heap.size, 0, none⟩ = some (.slice A0 x.1.length c0) := HX.out.cell 0
  have o0 : w2.cell? ⟨w.heap.size + 1 + 1, 0, none⟩ = some (.slice A0' x.1.length c0') := HO.out.cell 0
  have r0 : w2.cell? ⟨w.heap.size + 1, 0, none⟩ = some (.slice none 0 0) := HR.out.cell 0
  have p0 : w2.frozen? ⟨w.heap.size + 1 + 1, 0, none⟩ = false := HO.out.frozen 0
  have q0 : w2.frozen? ⟨w.heap.size + 1, 0, none⟩ = false := HR.out.frozen 0
  have x1 : w2.cell? ⟨w.heap.size, 1, none⟩ = some (.slice A1 x.2.length c1) := HX.out.cell 1
  have o1 : w2.cell? ⟨w.heap.size + 1 + 1, 1, none⟩ = some (.slice none 0 0) := HO.out.cell 1
  have r1 : w2.cell? ⟨w.heap.size + 1, 1, none⟩ = some (.slice none 0 0) := HR.out.cell 1
  have p1 : w2.frozen? ⟨w.heap.size + 1 + 1, 1, none⟩ = false := HO.out.frozen 1
  have q1 : w2.frozen? ⟨w.heap.size + 1, 1, none⟩ = false := HR.out.frozen 1
  go_wp2
  have hE : Blk (((w2.setCell ⟨w.heap.size + 1 + 1, 1, none⟩ (.slice A1' x.2.length c1')).setCell ⟨w.heap.size + 1, 0, none⟩ (.slice A0' x.1.length c0')).setCell ⟨w.heap.size + 1, 1, none⟩ (.slice A1' x.2.length c1')) (w.heap.size + 1) 69 #[.slice A0' x.1.length c0', .slice A1' x.2.length c1'] := (((HR.out.far (p := ⟨w.heap.size + 1 + 1, 1, none⟩) (by show w.heap.size + 1 ≠ w.heap.size + 1 + 1; omega) _).set _ _).set _ _)
  have e0 : (((w2.setCell ⟨w.heap.size + 1 + 1, 1, none⟩ (.slice A1' x.2.length c1')).setCell ⟨w.heap.size + 1, 0, none⟩ (.slice A0' x.1.length c0')).setCell ⟨w.heap.size + 1, 1, none⟩ (.slice A1' x.2.length c1')).cell? ⟨w.heap.size + 1, 0, none⟩ = some (.slice A0' x.1.length c0') := hE.cell 0
  have e1 : (((w2.setCell ⟨w.heap.size + 1 + 1, 1, none⟩ (.slice A1' x.2.length c1')).setCell ⟨w.heap.size + 1, 0, none⟩ (.slice A0' x.1.length c0')).setCell ⟨w.heap.size + 1, 1, none⟩ (.slice A1' x.2.length c1')).cell? ⟨w.heap.size + 1, 1, none⟩ = some (.slice A1' x.2.length c1') := hE.cell 1
  refine bodyPost_ret (v := .agg #[.slice A0' x.1.length c0', .slice A1' x.2.length c1']) (by simp [results, Try.results42, go_sem, e0, e1]) rfl ?_
  have t1 : w.heap.size + 3 ≤ w1.heap.size := by have h1 := HBW1.out.size; simp only [World.size_alloc] at h1; omega
  have t2 : w.heap.size + 3 ≤ w2.heap.size := by have h1 := HBW1.out.size; simp only [World.size_alloc] at h1; have h2 := HBW2.out.size; simp only [World.size_setCell] at h2; omega
  refine ⟨[.slice A0' x.1.length c0', .slice A1' x.2.length c1'], rfl, ?_, ?_⟩
  · have sE1 : So eInt (((w2.setCell ⟨w.heap.size + 1 + 1, 1, none⟩ (.slice A1' x.2.length c1')).setCell ⟨w.heap.size + 1, 0, none⟩ (.slice A0' x.1.length c0')).setCell ⟨w.heap.size + 1, 1, none⟩ (.slice A1' x.2.length c1')) (Iv w.heap.size w1.heap.size) _ _ x.1 := (HS1.out.keep (w' := (((w2.setCell ⟨w.heap.size + 1 + 1, 1, none⟩ (.slice A1' x.2.length c1')).setCell ⟨w.heap.size + 1, 0, none⟩ (.slice A0' x.1.length c0')).setCell ⟨w.heap.size + 1, 1, none⟩ (.slice A1' x.2.length c1'))) fun b hb => ((((((Lat.refl (w.heap.size + 3) w1).set (p := ⟨w.heap.size + 1 + 1, 0, none⟩) (by show w.heap.size + 1 + 1 < _; omega)).below HBW2.out).set (p := ⟨w.heap.size + 1 + 1, 1, none⟩) (by show w.heap.size + 1 + 1 < _; omega)).set (p := ⟨w.heap.size + 1, 0, none⟩) (by show w.heap.size + 1 < _; omega)).set (p := ⟨w.heap.size + 1, 1, none⟩) (by show w.heap.size + 1 < _; omega)).block b (by have h1 := hb.1; simp only [World.size_alloc, World.size_setCell] at h1; omega) hb.2).more (Iv.mono (by simp only [World.size_alloc]; omega) (by omega))
    have u2 : w1.heap.size ≤ w2.heap.size := by have := HBW2.out.size; simp only [World.size_setCell] at this; omega
    have sE2 : So eInt (((w2.setCell ⟨w.heap.size + 1 + 1, 1, none⟩ (.slice A1' x.2.length c1')).setCell ⟨w.heap.size + 1, 0, none⟩ (.slice A0' x.1.length c0')).setCell ⟨w.heap.size + 1, 1, none⟩ (.slice A1' x.2.length c1')) (Iv w1.heap.size (((w2.setCell ⟨w.heap.size + 1 + 1, 1, none⟩ (.slice A1' x.2.length c1')).setCell ⟨w.heap.size + 1, 0, none⟩ (.slice A0' x.1.length c0')).setCell ⟨w.heap.size + 1, 1, none⟩ (.slice A1' x.2.length c1')).heap.size) _ _ x.2 := (HS2.out.keep (w' := (((w2.setCell ⟨w.heap.size + 1 + 1, 1, none⟩ (.slice A1' x.2.length c1')).setCell ⟨w.heap.size + 1, 0, none⟩ (.slice A0' x.1.length c0')).setCell ⟨w.heap.size + 1, 1, none⟩ (.slice A1' x.2.length c1'))) fun b hb => ((((Lat.refl (w.heap.size + 3) w2).set (p := ⟨w.heap.size + 1 + 1, 1, none⟩) (by show w.heap.size + 1 + 1 < _; omega)).set (p := ⟨w.heap.size + 1, 0, none⟩) (by show w.heap.size + 1 < _; omega)).set (p := ⟨w.heap.size + 1, 1, none⟩) (by show w.heap.size + 1 < _; omega)).block b (by have h1 := hb.1; simp only [World.size_alloc, World.size_setCell] at h1; omega) hb.2).more (Iv.mono (by simp only [World.size_setCell]; omega) (by simp only [World.size_setCell]; omega))
    exact (oPr (l := w.heap.size) (m := w1.heap.size) (oSl sE1) (oSl sE2) (by omega) (by first | omega | (simp only [World.size_setCell]; omega)))
  · exact (((BL2.out.setCell (p := ⟨w.heap.size + 1 + 1, 1, none⟩) (by show w.heap.size ≤ w.heap.size + 1 + 1; omega) _).setCell (p := ⟨w.heap.size + 1, 0, none⟩) (by show w.heap.size ≤ w.heap.size + 1; omega) _).setCell (p := ⟨w.heap.size + 1, 1, none⟩) (by show w.heap.size ≤ w.heap.size + 1; omega) _)

set_option maxHeartbeats 1000000 in
theorem to_TapeS (A : Option Addr) (c : Nat) (xs : List tTape) (w : World) (h : Sl eTape w (Old w) A c xs) (hsm : cost_STape xs ≤ 1048576) :
    Calls Try.prog 88 #[.slice A xs.length c] w fun e w' => ∃ A' c', e = .returned (.slice A' xs.length c') ∧ So eTape w' (Fr w w') A' c' xs ∧ Below w.heap.size w w' := by
  obtain ⟨i0, hi0, hz0, hz1, hz2⟩ := info_parts info_impl_Tape
  have hlen := h.len
  have hsl : xs.length ≤ 1048576 := by have : cost_STape xs = costL cost_Tape xs := rfl; unfold costL at this; omega
  have HCO := Lib.hid hsm; clear hsm
  have H := Lib.hid h; clear h
  go_enter Try.func88, Try.ntmps88
  go_wp2_with (at_make; refine wpList_make_full _ rfl _ _ 43 rfl w.heap.size 69 i0 _ 2 Try.underlying43 hi0 hz0 hz1 _ _ _ _ xs.length rfl rfl rfl rfl (by rw [hz2]; omega) (by unfold maxLen; omega) (Nat.le_refl _) ?_)
  intro w1 hown hgrow
  obtain ⟨cur, hB, hs, ht, hn1, hn2⟩ := Blk.of_own hown
  have HB := Lib.hid hB; clear hB
  have HS : Hid (cur.size = xs.length * 2) := by show _ = _; omega
  have hbel : Below w.heap.size w w1 := (Below.refl _ _).grown hgrow (Nat.le_refl _) (by simp)
  have HL := Lib.hid hbel; clear hbel
  clear hs ht hn1 hn2 hgrow hown hi0 hz0 hz1 hz2
  go_wp2_with fail
  go_loopw [4] (fun s4 wr => ∃ (k : Nat) (cur : Array Value), k ≤ xs.length ∧ s4 = .int .i64 k ∧ Hid (Below w.heap.size w wr) ∧ Hid (Blk wr w.heap.size 69 cur) ∧ Hid (cur.size = xs.length * 2) ∧ Hid (Filled eTape wr w.heap.size (fun b => w.heap.size ≤ b) cur k xs)) (fun s4 _ => xs.length - (intOf s4).toNat)
  case atStart => exact ⟨0, cur, Nat.zero_le _, rfl, HL, HB, HS, Filled.zero⟩
  case round =>
    clear HB HS HL
    obtain ⟨k, cur, hk, rfl, HL, HB, HS, HF⟩ := hrel
    by_cases hlt : k < xs.length
    · have hltz : (k : Int) < (xs.length : Int) := by omega
      obtain ⟨b, off, es, rfl, hb, hR, hc⟩ := H.out.at hlt
      have HX : Hid (xs[k]? = some xs[k]) := List.getElem?_eq_getElem hlt
      have HR := Lib.hid (eTape.on hR HL.out)
      have HCS : Hid (cost_Tape xs[k] ≤ 1048576) := by have h1 := cost_mem cost_Tape xs k hlt; have h2 : cost_STape xs = costL cost_Tape xs := rfl; have := HCO.out; show _ ≤ _; omega
      obtain ⟨Aq0, cq0, Aq1, cq1, rfl, gq0, gq1⟩ := shape_Tape hR
      have d0 : wr.cell? ⟨b, off + k * 2, none⟩ = some (.slice Aq0 xs[k].1.length cq0) := (below_olds HL.out _ hb).trans (hc 0 _ rfl)
      have d1 : wr.cell? ⟨b, off + k * 2 + 1, none⟩ = some (.slice Aq1 xs[k].2.length cq1) := (below_olds HL.out _ hb).trans (hc 1 _ rfl)
      clear hc gq0 gq1
      try clear hR
      obtain ⟨v0, hv0⟩ : ∃ v, cur[k * 2]? = some v := get_some (by have := HS.out; omega)
      obtain ⟨v1, hv1⟩ : ∃ v, cur[k * 2 + 1]? = some v := get_some (by have := HS.out; omega)
      have HV0 := Lib.hid hv0; clear hv0
      have HV1 := Lib.hid hv1; clear hv1
      generalize xs[k] = y at d0 d1 HX HR HCS
      go_wp2_with fail
      refine (to_Tape _ y _ HR.out HCS.out).mono ?_
      rintro e w2 ⟨es2, rfl, ho2, hb2⟩
      have hR2 := eTape.read ho2
      have HO2 := Lib.hid ho2; clear ho2
      obtain ⟨Ar0, cr0, Ar1, cr1, rfl, gr0, gr1⟩ := shape_Tape hR2
      clear gr0 gr1
      try clear hR2
      have hB2 := HB.out.on hb2
      have e0 : w2.cell? ⟨w.heap.size, k * 2, none⟩ = some v0 := (hB2.cell _).trans HV0.out
      have e1 : w2.cell? ⟨w.heap.size, k * 2 + 1, none⟩ = some v1 := (hB2.cell _).trans HV1.out
      have f0 := hB2.frozen (k * 2)
      have f1 := hB2.frozen (k * 2 + 1)
      have HB2 := Lib.hid hB2; clear hB2
      have HL2 := Lib.hid hb2; clear hb2
      go_wp2
      go_roundw
      case rel =>
        have hL := HL.out
        have hL2 := HL2.out
        have hbs : ∀ b, b ≠ w.heap.size → ∀ W : World, (∀ b, b ≠ w.heap.size → W.heap[b]? = w2.heap[b]?) → W.heap[b]? = w2.heap[b]? := fun b hb W h => h b hb
        have hW : ∀ b, b ≠ w.heap.size → ((w2.setCell ⟨w.heap.size, k * 2, none⟩ (.slice Ar0 y.1.length cr0)).setCell ⟨w.heap.size, k * 2 + 1, none⟩ (.slice Ar1 y.2.length cr1)).heap[b]? = w2.heap[b]? := fun b hb => by
          rw [Below.heap_setCell _ _ _ _ (by exact hb), Below.heap_setCell _ _ _ _ (by exact hb)]
        have hsz : ((w2.setCell ⟨w.heap.size, k * 2, none⟩ (.slice Ar0 y.1.length cr0)).setCell ⟨w.heap.size, k * 2 + 1, none⟩ (.slice Ar1 y.2.length cr1)).heap.size = w2.heap.size := by simp [World.setCell]
        refine ⟨k + 1, setAll cur (k * 2) [.slice Ar0 y.1.length cr0, .slice Ar1 y.2.length cr1], by omega, by go_num, (((hL.trans (hL2.mono hL.size)).setCell (Nat.le_refl _) _).setCell (Nat.le_refl _) _), ((HB2.out.set _ _).set _ _), (size_setAll _ _ _).trans HS.out, ?_⟩
        have hstep := (HF.out).step (w' := (w2.setCell ⟨w.heap.size, k * 2, none⟩ (.slice Ar0 y.1.length cr0)).setCell ⟨w.heap.size, k * 2 + 1, none⟩ (.slice Ar1 y.2.length cr1)) (T0 := Fr wr w2) (es := [.slice Ar0 y.1.length cr0, .slice Ar1 y.2.length cr1]) (fun b hb hlt => (hW b hb).trans (hL2.block b hlt)) (by rw [hsz]; exact hL2.size) HX.out
          (eTape.okeep HO2.out fun b hb => hW b (fun e => by have := HB.out.lt; have := hb.1; omega)) (fun b hb => ⟨Nat.le_trans hL.size hb.1, fun e => by have := HB.out.lt; have := hb.1; omega, hb.1, by rw [hsz]; exact hb.2⟩) (by have := HS.out; show (k + 1) * 2 ≤ _; omega)
        exact hstep
      case measure => simp [intOf]; omega
    · have hltz : ¬ (k : Int) < (xs.length : Int) := by omega
      obtain rfl : k = xs.length := by omega
      go_wp2
      go_ret
      exact ⟨_, _, rfl, HF.out.soFr HB.out (Nat.le_refl _) (by unfold maxLen; omega), HL.out⟩

set_option maxRecDepth 100000 in
set_option maxHeartbeats 2000000 in
theorem to_MultiConfig (es : List Value) (x : tMultiConfig) (w : World) (h : eMultiConfig.R w (Old w) es x) (hcost : cost_MultiConfig x ≤ 1048576) :
    Calls Try.prog 27 #[.agg es.toArray] w fun e w' => ∃ es', e = .returned (.agg es'.toArray) ∧ eMultiConfig.O w' (Fr w w') es' x ∧ Below w.heap.size w w' := by
  obtain ⟨A1, c1, rfl, g0, g1⟩ := shape_MultiConfig h
  have HC : Hid (cost_MultiConfig x ≤ 1048576) := hcost
  unfold cost_MultiConfig at hcost
  have HB0 : Hid (Below w.heap.size w (((w.alloc (.cells #[.int .i64 x.1, .slice A1 x.2.length c1] 40)).alloc (.cells #[.int .i64 0, .slice none 0 0] 45)).alloc (.cells #[.int .i64 x.1, .slice none 0 0] 45))) := by show Below _ _ _; go_grown
  have hc1 : cost_STape x.2 ≤ 1048576 := by omega
  have HC1 := Lib.hid hc1; clear hc1
  have K1 := Lib.hid g1; clear g1
  have G0 := Lib.hid g0; clear g0
  clear hcost h
  go_enter Try.func27, Try.ntmps27
  go_wp2_with fail
  refine (to_TapeS _ _ x.2 _ (by exact K1.out.on HB0.out) HC1.out).mono ?_
  rintro e w1 ⟨A1', c1', rfl, hs, hb⟩
  have HS1 := Lib.hid hs; clear hs
  have BL1 := Lib.hid (HB0.out.trans (hb.mono HB0.out.size))
  have HBW1 := Lib.hid hb; clear hb
  have HX := Lib.hid ((((Blk.new w 40 #[.int .i64 x.1, .slice A1 x.2.length c1]).alloc _).alloc _).on HBW1.out)
  have HR := Lib.hid (((Blk.new1 w _ 45 #[.int .i64 0, .slice none 0 0]).alloc _).on HBW1.out)
  have HO : Hid (Blk w1 (w.heap.size + 1 + 1) 45 #[.int .i64 x.1, .slice none 0 0]) := (Blk.new2 w _ _ 45 #[.int .i64 x.1, .slice none 0 0]).on HBW1.out
  have x0 : w1.cell? ⟨w.heap.size, 0, none⟩ = some (.int .i64 x.1) := HX.out.cell 0
  have o0 : w1.cell? ⟨w.heap.size + 1 + 1, 0, none⟩ = some (.int .i64 x.1) := HO.out.cell 0
  have r0 : w1.cell? ⟨w.heap.size + 1, 0, none⟩ = some (.int .i64 0) := HR.out.cell 0
  have p0 : w1.frozen? ⟨w.heap.size + 1 + 1, 0, none⟩ = false := HO.out.frozen 0
  have q0 : w1.frozen? ⟨w.heap.size + 1, 0, none⟩ = false := HR.out.frozen 0
  have x1 : w1.cell? ⟨w.heap.size, 1, none⟩ = some (.slice A1 x.2.length c1) := HX.out.cell 1
  have o1 : w1.cell? ⟨w.heap.size + 1 + 1, 1, none⟩ = some (.slice none 0 0) := HO.out.cell 1
  have r1 : w1.cell? ⟨w.heap.size + 1, 1, none⟩ = some (.slice none 0 0) := HR.out.cell 1
  have p1 : w1.frozen? ⟨w.heap.size + 1 + 1, 1, none⟩ = false := HO.out.frozen 1
  have q1 : w1.frozen? ⟨w.heap.size + 1, 1, none⟩ = false := HR.out.frozen 1
  go_wp2
  have hE : Blk (((w1.setCell ⟨w.heap.size + 1 + 1, 1, none⟩ (.slice A1' x.2.length c1')).setCell ⟨w.heap.size + 1, 0, none⟩ (.int .i64 x.1)).setCell ⟨w.heap.size + 1, 1, none⟩ (.slice A1' x.2.length c1')) (w.heap.size + 1) 45 #[.int .i64 x.1, .slice A1' x.2.length c1'] := (((HR.out.far (p := ⟨w.heap.size + 1 + 1, 1, none⟩) (by show w.heap.size + 1 ≠ w.heap.size + 1 + 1; omega) _).set _ _).set _ _)
  have e0 : (((w1.setCell ⟨w.heap.size + 1 + 1, 1, none⟩ (.slice A1' x.2.length c1')).setCell ⟨w.heap.size + 1, 0, none⟩ (.int .i64 x.1)).setCell ⟨w.heap.size + 1, 1, none⟩ (.slice A1' x.2.length c1')).cell? ⟨w.heap.size + 1, 0, none⟩ = some (.int .i64 x.1) := hE.cell 0
  have e1 : (((w1.setCell ⟨w.heap.size + 1 + 1, 1, none⟩ (.slice A1' x.2.length c1')).setCell ⟨w.heap.size + 1, 0, none⟩ (.int .i64 x.1)).setCell ⟨w.heap.size + 1, 1, none⟩ (.slice A1' x.2.length c1')).cell? ⟨w.heap.size + 1, 1, none⟩ = some (.slice A1' x.2.length c1') := hE.cell 1
  refine bodyPost_ret (v := .agg #[.int .i64 x.1, .slice A1' x.2.length c1']) (by simp [results, Try.results27, go_sem, e0, e1]) rfl ?_
  have t1 : w.heap.size + 3 ≤ w1.heap.size := by have h1 := HBW1.out.size; simp only [World.size_alloc] at h1; omega
  refine ⟨[.int .i64 x.1, .slice A1' x.2.length c1'], rfl, ?_, ?_⟩
  · have sE1 : So eTape (((w1.setCell ⟨w.heap.size + 1 + 1, 1, none⟩ (.slice A1' x.2.length c1')).setCell ⟨w.heap.size + 1, 0, none⟩ (.int .i64 x.1)).setCell ⟨w.heap.size + 1, 1, none⟩ (.slice A1' x.2.length c1')) (Iv w.heap.size (((w1.setCell ⟨w.heap.size + 1 + 1, 1, none⟩ (.slice A1' x.2.length c1')).setCell ⟨w.heap.size + 1, 0, none⟩ (.int .i64 x.1)).setCell ⟨w.heap.size + 1, 1, none⟩ (.slice A1' x.2.length c1')).heap.size) _ _ x.2 := (HS1.out.keep (w' := (((w1.setCell ⟨w.heap.size + 1 + 1, 1, none⟩ (.slice A1' x.2.length c1')).setCell ⟨w.heap.size + 1, 0, none⟩ (.int .i64 x.1)).setCell ⟨w.heap.size + 1, 1, none⟩ (.slice A1' x.2.length c1'))) fun b hb => ((((Lat.refl (w.heap.size + 3) w1).set (p := ⟨w.heap.size + 1 + 1, 1, none⟩) (by show w.heap.size + 1 + 1 < _; omega)).set (p := ⟨w.heap.size + 1, 0, none⟩) (by show w.heap.size + 1 < _; omega)).set (p := ⟨w.heap.size + 1, 1, none⟩) (by show w.heap.size + 1 < _; omega)).block b (by have h1 := hb.1; simp only [World.size_alloc, World.size_setCell] at h1; omega) hb.2).more (Iv.mono (by simp only [World.size_alloc]; omega) (by simp only [World.size_setCell]; omega))
    exact (oPrI G0.out (oSl sE1))
  · exact (((BL1.out.setCell (p := ⟨w.heap.size + 1 + 1, 1, none⟩) (by show w.heap.size ≤ w.heap.size + 1 + 1; omega) _).setCell (p := ⟨w.heap.size + 1, 0, none⟩) (by show w.heap.size ≤ w.heap.size + 1; omega) _).setCell (p := ⟨w.heap.size + 1, 1, none⟩) (by show w.heap.size ≤ w.heap.size + 1; omega) _)

set_option maxRecDepth 100000 in
set_option maxHeartbeats 1000000 in
theorem spec_l00Same (A A' : Option Addr) (c c' : Nat) (xs ys : List Int) (w : World) (h : Sl eInt w (Old w) A c xs) (h' : Sl eInt w (Old w) A' c' ys) :
    Calls Try.prog 144 #[.slice A xs.length c, .slice A' ys.length c'] w fun e w' => e = .returned (.bool (eq_L xs ys)) ∧ Dr w w' := by
  have hlen := h.len
  have hlen' := h'.len
  unfold eq_L
  by_cases hne : xs.length = ys.length
  · have hne' : ((xs.length : Int) != (ys.length : Int)) = false := by simp [hne]
    have HE := Lib.hid hne; clear hne
    have H := Lib.hid h; clear h
    have H' := Lib.hid h'; clear h'
    go_enter Try.func144, Try.ntmps144
    go_wp2
    clear hne'
    go_loopw [5] (fun s5 wr => ∃ k : Nat, k ≤ xs.length ∧ s5 = .int .i64 k ∧ Hid (Dr w wr) ∧ Hid (∀ j (h1 : j < xs.length) (h2 : j < ys.length), j < k → eq_i xs[j] ys[j] = true)) (fun s5 _ => xs.length - (intOf s5).toNat)
    case atStart => exact ⟨0, Nat.zero_le _, rfl, Dr.refl _, fun j _ _ h => absurd h (Nat.not_lt_zero _)⟩
    case round =>
      obtain ⟨k, hk, rfl, HL, HN⟩ := hrel
      by_cases hlt : k < xs.length
      · have hltz : (k : Int) < (xs.length : Int) := by omega
        have hlt' : k < ys.length := by have := HE.out; omega
        have hltz' : (k : Int) < (ys.length : Int) := by omega
        obtain ⟨bp, offp, esp, rfl, hbp, ⟨rfl, _⟩, hc⟩ := H.out.at1 rfl hlt
        have dp0 : wr.cell? ⟨bp, offp + k, none⟩ = some (.int .i64 xs[k]) := (HL.out.cell _).trans (hc _ rfl)
        clear hc
        obtain ⟨bq, offq, esq, rfl, hbq, ⟨rfl, _⟩, hc⟩ := H'.out.at1 rfl hlt'
        have dq0 : wr.cell? ⟨bq, offq + k, none⟩ = some (.int .i64 ys[k]) := (HL.out.cell _).trans (hc _ rfl)
        clear hc
        have HQ0 : Hid (eq_i xs[k] ys[k] = false → eqL eq_i xs ys = false) := eqL_get xs ys k hlt hlt'
        have HQ1 : Hid (eq_i xs[k] ys[k] = true → ∀ j (h1 : j < xs.length) (h2 : j < ys.length), j < k + 1 → eq_i xs[j] ys[j] = true) := fun e j h1 h2 hj => by
          by_cases ej : j = k
          · subst ej; exact e
          · exact HN.out j h1 h2 (by omega)
        generalize xs[k] = x at dp0 HQ0 HQ1
        generalize ys[k] = y at dq0 HQ0 HQ1
        cases hq : eq_i x y
        · have hq' : (x != y) = true := by simp [eq_i] at hq; simp [hq]
          go_wp2_with fail
          go_quiet (fail)
          go_wp2
          go_ret
          exact ⟨by rw [HQ0.out hq]; rfl, HL.out.drewN _⟩
        · have hq' : (x != y) = false := by simp [eq_i] at hq; simp [hq]
          go_wp2_with fail
          go_quiet (fail)
          go_wp2
          go_roundw
          case rel => exact ⟨k + 1, by omega, by go_num, HL.out.drewN _, HQ1.out hq⟩
          case measure => simp [intOf]; omega
      · have hltz : ¬ (k : Int) < (xs.length : Int) := by omega
        obtain rfl : k = xs.length := by omega
        go_wp2
        go_ret
        exact ⟨by rw [eqL_all xs ys HE.out fun j h1 h2 => HN.out j h1 h2 h1]; rfl, HL.out⟩
  · have hne' : ((xs.length : Int) != (ys.length : Int)) = true := by simp; omega
    rw [eqL_len xs ys hne]
    clear h h' hne
    go_enter Try.func144, Try.ntmps144
    go_wp2
    go_ret
    exact ⟨rfl, Dr.refl _⟩

set_option maxRecDepth 100000 in
set_option maxHeartbeats 1000000 in
theorem slices_Equal (A A' : Option Addr) (c c' : Nat) (xs ys : List Int) (w : World) (h : Sl eInt w (Old w) A c xs) (h' : Sl eInt w (Old w) A' c' ys) :
    Calls Try.prog 145 #[.slice A xs.length c, .slice A' ys.length c'] w fun e w' => e = .returned (.bool (eq_L xs ys)) ∧ Dr w w' := by
  have hlen := h.len
  have hlen' := h'.len
  unfold eq_L
  by_cases hne : xs.length = ys.length
  · have hne' : ((xs.length : Int) != (ys.length : Int)) = false := by simp [hne]
    have HE := Lib.hid hne; clear hne
    have H := Lib.hid h; clear h
    have H' := Lib.hid h'; clear h'
    go_enter Try.func145, Try.ntmps145
    go_wp2
    clear hne'
    go_loopw [5, 13] (fun _ s5 wr => ∃ k : Nat, k ≤ xs.length ∧ s5 = .int .i64 k ∧ Hid (Dr w wr) ∧ Hid (∀ j (h1 : j < xs.length) (h2 : j < ys.length), j < k → eq_i xs[j] ys[j] = true)) (fun _ s5 _ => xs.length - (intOf s5).toNat)
    case atStart => exact ⟨0, Nat.zero_le _, rfl, Dr.refl _, fun j _ _ h => absurd h (Nat.not_lt_zero _)⟩
    case round =>
      obtain ⟨k, hk, rfl, HL, HN⟩ := hrel
      by_cases hlt : k < xs.length
      · have hltz : (k : Int) < (xs.length : Int) := by omega
        have hlt' : k < ys.length := by have := HE.out; omega
        have hltz' : (k : Int) < (ys.length : Int) := by omega
        obtain ⟨bp, offp, esp, rfl, hbp, ⟨rfl, _⟩, hc⟩ := H.out.at1 rfl hlt
        have dp0 : wr.cell? ⟨bp, offp + k, none⟩ = some (.int .i64 xs[k]) := (HL.out.cell _).trans (hc _ rfl)
        clear hc
        obtain ⟨bq, offq, esq, rfl, hbq, ⟨rfl, _⟩, hc⟩ := H'.out.at1 rfl hlt'
        have dq0 : wr.cell? ⟨bq, offq + k, none⟩ = some (.int .i64 ys[k]) := (HL.out.cell _).trans (hc _ rfl)
        clear hc
        have HQ0 : Hid (eq_i xs[k] ys[k] = false → eqL eq_i xs ys = false) := eqL_get xs ys k hlt hlt'
        have HQ1 : Hid (eq_i xs[k] ys[k] = true → ∀ j (h1 : j < xs.length) (h2 : j < ys.length), j < k + 1 → eq_i xs[j] ys[j] = true) := fun e j h1 h2 hj => by
          by_cases ej : j = k
          · subst ej; exact e
          · exact HN.out j h1 h2 (by omega)
        generalize xs[k] = x at dp0 HQ0 HQ1
        generalize ys[k] = y at dq0 HQ0 HQ1
        cases hq : eq_i x y
        · have hq' : (x != y) = true := by simp [eq_i] at hq; simp [hq]
          go_wp2_with fail
          go_quiet (fail)
          go_wp2
          go_ret
          exact ⟨by rw [HQ0.out hq]; rfl, HL.out.drewN _⟩
        · have hq' : (x != y) = false := by simp [eq_i] at hq; simp [hq]
          go_wp2_with fail
          go_quiet (fail)
          go_wp2
          go_roundw
          case rel => exact ⟨k + 1, by omega, by go_num, HL.out.drewN _, HQ1.out hq⟩
          case measure => simp [intOf]; omega
      · have hltz : ¬ (k : Int) < (xs.length : Int) := by omega
        obtain rfl : k = xs.length := by omega
        go_wp2
        go_ret
        exact ⟨by rw [eqL_all xs ys HE.out fun j h1 h2 => HN.out j h1 h2 h1]; rfl, HL.out⟩
  · have hne' : ((xs.length : Int) != (ys.length : Int)) = true := by simp; omega
    rw [eqL_len xs ys hne]
    clear h h' hne
    go_enter Try.func145, Try.ntmps145
    go_wp2
    go_ret
    exact ⟨rfl, Dr.refl _⟩

theorem enters_sameTape : ∀ args w, (callFunc 90 args).run Try.prog w = .ok (.enter 90 args) w := enters_of Try.func90 (by kernel_rfl) rfl

set_option maxHeartbeats 400000 in
theorem impl_sameTape (es es' : List Value) (x y : tTape) (w : World) (h : eTape.R w (Old w) es x) (h' : eTape.R w (Old w) es' y) :
    Calls Try.prog 90 #[.agg es.toArray, .agg es'.toArray] w fun e w' => e = .returned (.bool (eq_Tape x y)) ∧ Below w.heap.size w w' := by
  obtain ⟨A0, c0, A1, c1, rfl, g0, g1⟩ := shape_Tape h
  obtain ⟨B0, d0, B1, d1, rfl, k0, k1⟩ := shape_Tape h'
  clear h h'
  have HB : Hid (Below w.heap.size w ((w.alloc (.cells #[.slice A0 x.1.length c0, .slice A1 x.2.length c1] 69)).alloc (.cells #[.slice B0 y.1.length d0, .slice B1 y.2.length d1] 69))) := by show Below _ _ _; go_grown
  have HE : Hid (eq_Tape x y = (eq_L x.1 y.1 && eq_L x.2 y.2)) := rfl
  have HC0 := Lib.hid (slices_Equal _ _ _ _ x.1 y.1 _ (g0.on HB.out) (k0.on HB.out))
  have HG1 := Lib.hid (g1.on HB.out)
  have HK1 := Lib.hid (k1.on HB.out)
  clear g0 g1 k0 k1
  cases q0 : eq_L x.1 y.1
  · rw [q0] at HC0
    go_enter Try.func90, Try.ntmps90
    go_wp2_with (go_at_call 145; refine HC0.out.mono ?_; rintro e w1 ⟨rfl, hd⟩)
    go_ret
    exact ⟨ret_bool (by rw [HE.out, q0]; rfl), below_trans HB.out hd.below⟩
  · rw [q0] at HC0
    go_enter Try.func90, Try.ntmps90
    go_wp2_with fail
    refine HC0.out.mono ?_
    rintro e w1 ⟨rfl, ⟨m, rfl⟩⟩
    go_wp2_with fail
    refine (slices_Equal _ _ _ _ x.2 y.2 _ (HG1.out.on (Dr.below ⟨m, rfl⟩)) (HK1.out.on (Dr.below ⟨m, rfl⟩))).mono ?_
    rintro e w2 ⟨rfl, hd⟩
    go_wp2
    go_ret
    exact ⟨ret_bool (by rw [HE.out, q0]; rfl), below_trans (below_trans HB.out (Dr.below ⟨m, rfl⟩)) hd.below⟩

set_option maxRecDepth 100000 in
set_option maxHeartbeats 1000000 in
theorem slices_EqualFunc_Tape (A A' : Option Addr) (c c' : Nat) (xs ys : List tTape) (w : World) (h : Sl eTape w (Old w) A c xs) (h' : Sl eTape w (Old w) A' c' ys) :
    Calls Try.prog 89 #[.slice A xs.length c, .slice A' ys.length c', .func (.func 90) #[] #[]] w fun e w' => e = .returned (.bool (eq_STape xs ys)) ∧ Below w.heap.size w w' := by
  have hlen := h.len
  have hlen' := h'.len
  have eg := enters_sameTape
  unfold eq_STape
  by_cases hne : xs.length = ys.length
  · have hne' : ((xs.length : Int) != (ys.length : Int)) = false := by simp [hne]
    have HE := Lib.hid hne; clear hne
    have H := Lib.hid h; clear h
    have H' := Lib.hid h'; clear h'
    go_enter Try.func89, Try.ntmps89
    go_wp2
    clear hne'
    go_loopw [7, 8, 9, 17] (fun _ _ _ s5 wr => ∃ k : Nat, k ≤ xs.length ∧ s5 = .int .i64 k ∧ Hid (Below w.heap.size w wr) ∧ Hid (∀ j (h1 : j < xs.length) (h2 : j < ys.length), j < k → eq_Tape xs[j] ys[j] = true)) (fun _ _ _ s5 _ => xs.length - (intOf s5).toNat)
    case atStart => exact ⟨0, Nat.zero_le _, rfl, Below.refl _ _, fun j _ _ h => absurd h (Nat.not_lt_zero _)⟩
    case round =>
      obtain ⟨k, hk, rfl, HL, HN⟩ := hrel
      by_cases hlt : k < xs.length
      · have hltz : (k : Int) < (xs.length : Int) := by omega
        have hlt' : k < ys.length := by have := HE.out; omega
        have hltz' : (k : Int) < (ys.length : Int) := by omega
        obtain ⟨b, off, es, rfl, hb, hR, hc⟩ := H.out.at hlt
        have HRp := Lib.hid (eTape.on hR HL.out)
        obtain ⟨A0, c0, A1, c1, rfl, _, _⟩ := shape_Tape hR
        have p0 : wr.cell? ⟨b, off + k * 2, none⟩ = some (.slice A0 xs[k].1.length c0) := (below_olds HL.out _ hb).trans (hc 0 _ rfl)
        have p1 : wr.cell? ⟨b, off + k * 2 + 1, none⟩ = some (.slice A1 xs[k].2.length c1) := (below_olds HL.out _ hb).trans (hc 1 _ rfl)
        have hb1 : b < wr.heap.size := below_old HL.out _ hb
        clear hc hR hb
        obtain ⟨b', off', es', rfl, hb', hR, hc⟩ := H'.out.at hlt'
        have HRq := Lib.hid (eTape.on hR HL.out)
        obtain ⟨B0, d0, B1, d1, rfl, _, _⟩ := shape_Tape hR
        have r0 : wr.cell? ⟨b', off' + k * 2, none⟩ = some (.slice B0 ys[k].1.length d0) := (below_olds HL.out _ hb').trans (hc 0 _ rfl)
        have r1 : wr.cell? ⟨b', off' + k * 2 + 1, none⟩ = some (.slice B1 ys[k].2.length d1) := (below_olds HL.out _ hb').trans (hc 1 _ rfl)
        have hb1' : b' < wr.heap.size := below_old HL.out _ hb'
        clear hc hR hb'
        have HQ0 : Hid (eq_Tape xs[k] ys[k] = false → eqL eq_Tape xs ys = false) := eqL_get xs ys k hlt hlt'
        have HQ1 : Hid (eq_Tape xs[k] ys[k] = true → ∀ j (h1 : j < xs.length) (h2 : j < ys.length), j < k + 1 → eq_Tape xs[j] ys[j] = true) := fun e j h1 h2 hj => by
          by_cases ej : j = k
          · subst ej; exact e
          · exact HN.out j h1 h2 (by omega)
        generalize xs[k] = x at p0 p1 HRp HQ0 HQ1
        generalize ys[k] = y at r0 r1 HRq HQ0 HQ1
        have HB1 : Hid (Below wr.heap.size wr ((wr.alloc (.cells #[.slice A0 x.1.length c0, .slice A1 x.2.length c1] 69)).alloc (.cells #[.slice B0 y.1.length d0, .slice B1 y.2.length d1] 69))) := by show Below _ _ _; go_grown
        have hcall := impl_sameTape _ _ x y _ (eTape.on HRp.out HB1.out) (eTape.on HRq.out HB1.out)
        have HC := Lib.hid hcall; clear hcall
        cases hq : eq_Tape x y
        · rw [hq] at HC
          go_wp2_with (go_at_fn 90; refine HC.out.mono ?_; rintro e w2 ⟨rfl, hb2⟩)
          go_ret
          exact ⟨by rw [HQ0.out hq]; rfl, below_trans HL.out (below_trans HB1.out hb2)⟩
        · rw [hq] at HC
          go_wp2_with (go_at_fn 90; refine HC.out.mono ?_; rintro e w2 ⟨rfl, hb2⟩)
          go_roundw
          case rel => exact ⟨k + 1, by omega, by go_num, below_trans HL.out (below_trans HB1.out hb2), HQ1.out hq⟩
          case measure => simp [intOf]; omega
      · have hltz : ¬ (k : Int) < (xs.length : Int) := by omega
        obtain rfl : k = xs.length := by omega
        go_wp2
        go_ret
        exact ⟨by rw [eqL_all xs ys HE.out fun j h1 h2 => HN.out j h1 h2 h1]; rfl, HL.out⟩
  · have hne' : ((xs.length : Int) != (ys.length : Int)) = true := by simp; omega
    rw [eqL_len xs ys hne]
    clear h h' hne
    go_enter Try.func89, Try.ntmps89
    go_wp2
    go_ret
    exact ⟨rfl, Below.refl _ _⟩

set_option maxHeartbeats 400000 in
theorem impl_SameMultiConfig (es : List Value) (x : tMultiConfig) (es' : List Value) (y : tMultiConfig) (w : World) (h : eMultiConfig.R w (Old w) es x) (h' : eMultiConfig.R w (Old w) es' y) :
    Calls Try.prog 28 #[.agg es.toArray, .agg es'.toArray] w fun e w' => e = .returned (.bool (eq_MultiConfig x y)) ∧ Below w.heap.size w w' := by
  obtain ⟨A1, c1, rfl, _, g1⟩ := shape_MultiConfig h
  obtain ⟨B1, d1, rfl, _, k1⟩ := shape_MultiConfig h'
  clear h h'
  have HB : Hid (Below w.heap.size w ((w.alloc (.cells #[.int .i64 x.1, .slice A1 x.2.length c1] 45)).alloc (.cells #[.int .i64 y.1, .slice B1 y.2.length d1] 45))) := by show Below _ _ _; go_grown
  have HE : Hid (eq_MultiConfig x y = (x.1 == y.1 && eq_STape x.2 y.2)) := rfl
  have HC := Lib.hid (slices_EqualFunc_Tape _ _ _ _ x.2 y.2 _ (g1.on HB.out) (k1.on HB.out))
  clear g1 k1
  cases q0 : (x.1 == y.1)
  · go_enter Try.func28, Try.ntmps28
    go_wp2_with fail
    go_ret
    exact ⟨ret_bool (by rw [HE.out, q0]; rfl), HB.out⟩
  · go_enter Try.func28, Try.ntmps28
    go_wp2_with (go_at_call 89; refine HC.out.mono ?_; rintro e w1 ⟨rfl, hb⟩)
    go_ret
    exact ⟨ret_bool (by rw [HE.out, q0]; rfl), below_trans HB.out hb⟩

set_option maxRecDepth 100000 in
set_option maxHeartbeats 2000000 in
theorem spec_l06Same (p q : Nat) (x y : tMultiConfig) (A B : Option Addr) (c d : Nat) (w : World) (x0 : w.cell? ⟨p, 0, none⟩ = some (.int .i64 x.1)) (x1 : w.cell? ⟨p, 1, none⟩ = some (.slice A x.2.length c)) (y0 : w.cell? ⟨q, 0, none⟩ = some (.int .i64 y.1)) (y1 : w.cell? ⟨q, 1, none⟩ = some (.slice B y.2.length d))
    (h : Sl eTape w (Old w) A c x.2) (h' : Sl eTape w (Old w) B d y.2) :
    Calls Try.prog 87 #[.pointer (some ⟨p, 0, none⟩), .pointer (some ⟨q, 0, none⟩)] w fun e w' => e = .returned (.bool (eq_MultiConfig x y)) ∧ Dr w w' := by
  obtain ⟨x, xs⟩ := x
  obtain ⟨y, ys⟩ := y
  simp only at x0 x1 y0 y1 h h'
  have hlen := h.len
  have hlen' := h'.len
  have HE : Hid (eq_MultiConfig (x, xs) (y, ys) = (x == y && eqL eq_Tape xs ys)) := rfl
  have H := Lib.hid h; clear h
  have H' := Lib.hid h'; clear h'
  cases q0 : x != y
  rotate_left
  · go_enter Try.func87, Try.ntmps87
    go_wp2_with fail
    go_quiet (fail)
    go_wp2
    go_ret
    exact ⟨ret_bool (by rw [HE.out, show (x == y) = false from by simpa [bne] using q0]; rfl), Dr.drewN (Dr.refl _) _⟩
  have HQ : Hid ((x == y) = true) := by show _ = _; simpa [bne] using q0
  cases q1 : ((xs.length : Int) != (ys.length : Int))
  rotate_left
  · go_enter Try.func87, Try.ntmps87
    go_wp2_with fail
    go_quiet (fail)
    go_wp2
    go_ret
    exact ⟨ret_bool (by rw [HE.out, eqL_len xs ys (by simp at q1; omega)]; simp), Dr.drewN (Dr.refl _) _⟩
  have HL : Hid (xs.length = ys.length) := by show _ = _; simp at q1; omega
  go_enter Try.func87, Try.ntmps87
  go_wp2_with fail
  go_quiet (fail)
  clear q0 q1
  go_wp2
  go_loopw [5] (fun s5 wr => ∃ k : Nat, k ≤ xs.length ∧ s5 = .int .i64 k ∧ Hid (Dr w wr) ∧ Hid (∀ j (h1 : j < xs.length) (h2 : j < ys.length), j < k → eq_Tape xs[j] ys[j] = true)) (fun s5 _ => xs.length - (intOf s5).toNat)
  case atStart => exact ⟨0, Nat.zero_le _, rfl, Dr.drewN (Dr.refl _) _, fun j _ _ h => absurd h (Nat.not_lt_zero _)⟩
  case round =>
    obtain ⟨k, hk, rfl, HD, HN⟩ := hrel
    have u1 : wr.cell? ⟨p, 1, none⟩ = some (.slice A xs.length c) := (HD.out.cell _).trans x1
    have v1 : wr.cell? ⟨q, 1, none⟩ = some (.slice B ys.length d) := (HD.out.cell _).trans y1
    by_cases hlt : k < xs.length
    · have hltz : (k : Int) < (xs.length : Int) := by omega
      have hlt' : k < ys.length := by have := HL.out; omega
      have hltz' : (k : Int) < (ys.length : Int) := by omega
      obtain ⟨b, off, es, rfl, hb, hR, hc⟩ := H.out.at hlt
      obtain ⟨A0, c0, A1, c1, rfl, g0, g1⟩ := shape_Tape hR
      have p0 : wr.cell? ⟨b, off + k * 2, none⟩ = some (.slice A0 xs[k].1.length c0) := (HD.out.cell _).trans (hc 0 _ rfl)
      have p1 : wr.cell? ⟨b, off + k * 2 + 1, none⟩ = some (.slice A1 xs[k].2.length c1) := (HD.out.cell _).trans (hc 1 _ rfl)
      clear hc hR
      obtain ⟨b', off', es', rfl, hb', hR, hc⟩ := H'.out.at hlt'
      obtain ⟨B0, d0, B1, d1, rfl, k0, k1⟩ := shape_Tape hR
      have r0 : wr.cell? ⟨b', off' + k * 2, none⟩ = some (.slice B0 ys[k].1.length d0) := (HD.out.cell _).trans (hc 0 _ rfl)
      have r1 : wr.cell? ⟨b', off' + k * 2 + 1, none⟩ = some (.slice B1 ys[k].2.length d1) := (HD.out.cell _).trans (hc 1 _ rfl)
      clear hc hR
      have HC0 := Lib.hid (fun n => spec_l00Same _ _ _ _ xs[k].1 ys[k].1 (wr.drewN n) (g0.on (HD.out.drewN n).below) (k0.on (HD.out.drewN n).below))
      have HC1 := Lib.hid (fun n => spec_l00Same _ _ _ _ xs[k].2 ys[k].2 (wr.drewN n) (g1.on (HD.out.drewN n).below) (k1.on (HD.out.drewN n).below))
      clear g0 g1 k0 k1
      have HT : Hid (eq_Tape xs[k] ys[k] = (eq_L xs[k].1 ys[k].1 && eq_L xs[k].2 ys[k].2)) := rfl
      have HQ0 : Hid (eq_Tape xs[k] ys[k] = false → eqL eq_Tape xs ys = false) := eqL_get xs ys k hlt hlt'
      have HQ1 : Hid (eq_Tape xs[k] ys[k] = true → ∀ j (h1 : j < xs.length) (h2 : j < ys.length), j < k + 1 → eq_Tape xs[j] ys[j] = true) := fun e j h1 h2 hj => by
        by_cases ej : j = k
        · subst ej; exact e
        · exact HN.out j h1 h2 (by omega)
      generalize xs[k] = x at p0 p1 HC0 HC1 HT HQ0 HQ1
      generalize ys[k] = y at r0 r1 HC0 HC1 HT HQ0 HQ1
      have hk0 : (0 : Int) ≤ (k : Int) := by omega
      cases e0 : eq_L x.1 y.1
      · rw [e0] at HC0
        go_wp2_with fail
        go_quiet (first | (go_at_call_of 144 (Value.slice A0 x.1.length c0); exact Dr.quiet (HC0.out _)))
        go_wp2
        go_ret
        exact ⟨ret_bool (by rw [HE.out, HQ0.out (by rw [HT.out, e0]; rfl)]; simp), HD.out.drewN _⟩
      rw [e0] at HC0
      cases e1 : eq_L x.2 y.2
      · rw [e1] at HC1
        go_wp2_with fail
        go_quiet (first | (go_at_call_of 144 (Value.slice A0 x.1.length c0); exact Dr.quiet (HC0.out _)) | (go_at_call_of 144 (Value.slice A1 x.2.length c1); exact Dr.quiet (HC1.out _)))
        go_wp2
        go_ret
        exact ⟨ret_bool (by rw [HE.out, HQ0.out (by rw [HT.out, e0, e1]; rfl)]; simp), HD.out.drewN _⟩
      · rw [e1] at HC1
        go_wp2_with fail
        go_quiet (first | (go_at_call_of 144 (Value.slice A0 x.1.length c0); exact Dr.quiet (HC0.out _)) | (go_at_call_of 144 (Value.slice A1 x.2.length c1); exact Dr.quiet (HC1.out _)))
        go_wp2
        go_roundw
        case rel => exact ⟨k + 1, by omega, by go_num, HD.out.drewN _, HQ1.out (by rw [HT.out, e0, e1]; rfl)⟩
        case measure => simp [intOf]; omega
    · have hltz : ¬ (k : Int) < (xs.length : Int) := by omega
      obtain rfl : k = xs.length := by omega
      go_wp2
      go_ret
      exact ⟨ret_bool (by rw [HE.out, HQ.out, eqL_all xs ys HL.out fun j h1 h2 => HN.out j h1 h2 h1]; rfl), HD.out⟩

theorem spec_SameMultiConfig (es : List Value) (x : tMultiConfig) (es' : List Value) (y : tMultiConfig) (w : World) (h : eMultiConfig.R w (Old w) es x) (h' : eMultiConfig.R w (Old w) es' y) :
    Calls Try.prog 26 #[.agg es.toArray, .agg es'.toArray] w fun e w' => e = .returned (.bool (eq_MultiConfig x y)) ∧ Below w.heap.size w w' := by
  obtain ⟨A1, c1, rfl, _, g1⟩ := shape_MultiConfig h
  obtain ⟨B1, d1, rfl, _, k1⟩ := shape_MultiConfig h'
  clear h h'
  have HB : Hid (Below w.heap.size w ((w.alloc (.cells #[.int .i64 x.1, .slice A1 x.2.length c1] 45)).alloc (.cells #[.int .i64 y.1, .slice B1 y.2.length d1] 45))) := by show Below _ _ _; go_grown
  have b1 := (Blk.new w 45 #[.int .i64 x.1, .slice A1 x.2.length c1]).alloc (.cells #[.int .i64 y.1, .slice B1 y.2.length d1] 45)
  have b2 := Blk.new1 w (.cells #[.int .i64 x.1, .slice A1 x.2.length c1] 45) 45 #[.int .i64 y.1, .slice B1 y.2.length d1]
  have HC := Lib.hid (spec_l06Same _ _ x y _ _ _ _ _ (b1.cell 0) (b1.cell 1) (b2.cell 0) (b2.cell 1) (g1.on HB.out) (k1.on HB.out))
  clear g1 k1 b1 b2
  go_enter Try.func26, Try.ntmps26
  go_wp2_with (go_at_call 87; refine HC.out.mono ?_; rintro e w1 ⟨rfl, hd⟩)
  go_ret
  exact ⟨rfl, below_trans HB.out hd.below⟩

set_option maxRecDepth 100000 in
set_option maxHeartbeats 8000000 in
theorem law_SameMultiConfig (es0 : List Value) (a0 : tMultiConfig) (es1 : List Value) (a1 : tMultiConfig) (w : World) (h0 : eMultiConfig.R w (Old w) es0 a0) (h1 : eMultiConfig.R w (Old w) es1 a1) :
    Calls Try.prog 5 #[.agg es0.toArray, .agg es1.toArray] w fun e w' => e = .returned (.bool true) ∧ Below w.heap.size w w' := by
  have H0 := Lib.hid h0
  obtain ⟨Aa01, ca01, rfl, ga00, ga01⟩ := shape_MultiConfig h0
  clear ga00 ga01
  try clear h0
  have H1 := Lib.hid h1
  obtain ⟨Aa11, ca11, rfl, ga10, ga11⟩ := shape_MultiConfig h1
  clear ga10 ga11
  try clear h1
  have HBw := Lib.hid (Below.refl w.heap.size w)
  by_cases t0 : (1048576 : Int) - (cost_MultiConfig a0 : Nat) < 0
  · go_enter Try.func5, Try.ntmps5
    go_wp2_with fail
    refine (sz_MultiConfig _ a0 _ _ (by exact eMultiConfig.on H0.out (below_alloc (below_alloc HBw.out (.cells #[.int .i64 a0.1, .slice Aa01 a0.2.length ca01] 40)) (.cells #[.int .i64 a1.1, .slice Aa11 a1.2.length ca11] 40))) (by omega) (by omega)).mono ?_
    rintro e z0 ⟨rfl, hb⟩
    rw [left_neg (by omega)]
    have hbp : Below w.heap.size w z0 := below_trans (below_alloc (below_alloc (Below.refl _ _) (.cells #[.int .i64 a0.1, .slice Aa01 a0.2.length ca01] 40)) (.cells #[.int .i64 a1.1, .slice Aa11 a1.2.length ca11] 40)) hb
    have Zz0 : Hid (w.heap.size + 2 ≤ z0.heap.size) := by have h1 := hb.size; (try simp only [World.size_alloc, World.size_drew] at h1); show _ ≤ _; omega
    have HBz0 := Lib.hid (below_trans HBw.out hbp)
    have HXa0 := Lib.hid (((Blk.new w 40 #[.int .i64 a0.1, .slice Aa01 a0.2.length ca01]).alloc _).on hb)
    have HXa1 := Lib.hid ((Blk.new1 w _ 40 #[.int .i64 a1.1, .slice Aa11 a1.2.length ca11]).on hb)
    clear hbp hb
    have fa0_0 : z0.cell? ⟨w.heap.size, 0, none⟩ = some (.int .i64 a0.1) := HXa0.out.cell 0
    have fa0_1 : z0.cell? ⟨w.heap.size, 1, none⟩ = some (.slice Aa01 a0.2.length ca01) := HXa0.out.cell 1
    have fa1_0 : z0.cell? ⟨w.heap.size + 1, 0, none⟩ = some (.int .i64 a1.1) := HXa1.out.cell 0
    have fa1_1 : z0.cell? ⟨w.heap.size + 1, 1, none⟩ = some (.slice Aa11 a1.2.length ca11) := HXa1.out.cell 1
    go_wp2
    go_ret
    exact ⟨rfl, HBz0.out⟩
  by_cases t1 : (1048576 : Int) - (cost_MultiConfig a0 : Nat) - (cost_MultiConfig a1 : Nat) < 0
  · go_enter Try.func5, Try.ntmps5
    go_wp2_with fail
    refine (sz_MultiConfig _ a0 _ _ (by exact eMultiConfig.on H0.out (below_alloc (below_alloc HBw.out (.cells #[.int .i64 a0.1, .slice Aa01 a0.2.length ca01] 40)) (.cells #[.int .i64 a1.1, .slice Aa11 a1.2.length ca11] 40))) (by omega) (by omega)).mono ?_
    rintro e z0 ⟨rfl, hb⟩
    rw [left_pos (by omega)]
    have hbp : Below w.heap.size w z0 := below_trans (below_alloc (below_alloc (Below.refl _ _) (.cells #[.int .i64 a0.1, .slice Aa01 a0.2.length ca01] 40)) (.cells #[.int .i64 a1.1, .slice Aa11 a1.2.length ca11] 40)) hb
    have Zz0 : Hid (w.heap.size + 2 ≤ z0.heap.size) := by have h1 := hb.size; (try simp only [World.size_alloc, World.size_drew] at h1); show _ ≤ _; omega
    have HBz0 := Lib.hid (below_trans HBw.out hbp)
    have HXa0 := Lib.hid (((Blk.new w 40 #[.int .i64 a0.1, .slice Aa01 a0.2.length ca01]).alloc _).on hb)
    have HXa1 := Lib.hid ((Blk.new1 w _ 40 #[.int .i64 a1.1, .slice Aa11 a1.2.length ca11]).on hb)
    clear hbp hb
    have fa0_0 : z0.cell? ⟨w.heap.size, 0, none⟩ = some (.int .i64 a0.1) := HXa0.out.cell 0
    have fa0_1 : z0.cell? ⟨w.heap.size, 1, none⟩ = some (.slice Aa01 a0.2.length ca01) := HXa0.out.cell 1
    have fa1_0 : z0.cell? ⟨w.heap.size + 1, 0, none⟩ = some (.int .i64 a1.1) := HXa1.out.cell 0
    have fa1_1 : z0.cell? ⟨w.heap.size + 1, 1, none⟩ = some (.slice Aa11 a1.2.length ca11) := HXa1.out.cell 1
    go_wp2_with fail
    refine (sz_MultiConfig _ a1 _ _ (by exact eMultiConfig.on H1.out HBz0.out) (by omega) (by omega)).mono ?_
    rintro e z1 ⟨rfl, hb⟩
    rw [left_neg (by omega)]
    have hbp : Below z0.heap.size z0 z1 := hb
    have Zz1 : Hid (z0.heap.size + 0 ≤ z1.heap.size) := by have h1 := hb.size; (try simp only [World.size_alloc, World.size_drew] at h1); show _ ≤ _; omega
    have HBz1 := Lib.hid (below_trans HBz0.out hbp)
    have HXa0_ := Lib.hid (HXa0.out.on hbp); clear HXa0; have HXa0 := HXa0_; clear HXa0_
    have HXa1_ := Lib.hid (HXa1.out.on hbp); clear HXa1; have HXa1 := HXa1_; clear HXa1_
    clear hbp hb
    clear fa0_0 fa0_1 fa1_0 fa1_1
    have fa0_0 : z1.cell? ⟨w.heap.size, 0, none⟩ = some (.int .i64 a0.1) := HXa0.out.cell 0
    have fa0_1 : z1.cell? ⟨w.heap.size, 1, none⟩ = some (.slice Aa01 a0.2.length ca01) := HXa0.out.cell 1
    have fa1_0 : z1.cell? ⟨w.heap.size + 1, 0, none⟩ = some (.int .i64 a1.1) := HXa1.out.cell 0
    have fa1_1 : z1.cell? ⟨w.heap.size + 1, 1, none⟩ = some (.slice Aa11 a1.2.length ca11) := HXa1.out.cell 1
    go_wp2
    go_ret
    exact ⟨rfl, HBz1.out⟩
  have HC0 : Hid (cost_MultiConfig a0 ≤ 1048576) := by show _ ≤ _; omega
  have HC1 : Hid (cost_MultiConfig a1 ≤ 1048576) := by show _ ≤ _; omega
  go_enter Try.func5, Try.ntmps5
  go_wp2_with fail
  refine (sz_MultiConfig _ a0 _ _ (by exact eMultiConfig.on H0.out (below_alloc (below_alloc HBw.out (.cells #[.int .i64 a0.1, .slice Aa01 a0.2.length ca01] 40)) (.cells #[.int .i64 a1.1, .slice Aa11 a1.2.length ca11] 40))) (by omega) (by omega)).mono ?_
  rintro e z0 ⟨rfl, hb⟩
  rw [left_pos (by omega)]
  have hbp : Below w.heap.size w z0 := below_trans (below_alloc (below_alloc (Below.refl _ _) (.cells #[.int .i64 a0.1, .slice Aa01 a0.2.length ca01] 40)) (.cells #[.int .i64 a1.1, .slice Aa11 a1.2.length ca11] 40)) hb
  have Zz0 : Hid (w.heap.size + 2 ≤ z0.heap.size) := by have h1 := hb.size; (try simp only [World.size_alloc, World.size_drew] at h1); show _ ≤ _; omega
  have HBz0 := Lib.hid (below_trans HBw.out hbp)
  have HXa0 := Lib.hid (((Blk.new w 40 #[.int .i64 a0.1, .slice Aa01 a0.2.length ca01]).alloc _).on hb)
  have HXa1 := Lib.hid ((Blk.new1 w _ 40 #[.int .i64 a1.1, .slice Aa11 a1.2.length ca11]).on hb)
  clear hbp hb
  have fa0_0 : z0.cell? ⟨w.heap.size, 0, none⟩ = some (.int .i64 a0.1) := HXa0.out.cell 0
  have fa0_1 : z0.cell? ⟨w.heap.size, 1, none⟩ = some (.slice Aa01 a0.2.length ca01) := HXa0.out.cell 1
  have fa1_0 : z0.cell? ⟨w.heap.size + 1, 0, none⟩ = some (.int .i64 a1.1) := HXa1.out.cell 0
  have fa1_1 : z0.cell? ⟨w.heap.size + 1, 1, none⟩ = some (.slice Aa11 a1.2.length ca11) := HXa1.out.cell 1
  go_wp2_with fail
  refine (sz_MultiConfig _ a1 _ _ (by exact eMultiConfig.on H1.out HBz0.out) (by omega) (by omega)).mono ?_
  rintro e z1 ⟨rfl, hb⟩
  rw [left_pos (by omega)]
  have hbp : Below z0.heap.size z0 z1 := hb
  have Zz1 : Hid (z0.heap.size + 0 ≤ z1.heap.size) := by have h1 := hb.size; (try simp only [World.size_alloc, World.size_drew] at h1); show _ ≤ _; omega
  have HBz1 := Lib.hid (below_trans HBz0.out hbp)
  have HXa0_ := Lib.hid (HXa0.out.on hbp); clear HXa0; have HXa0 := HXa0_; clear HXa0_
  have HXa1_ := Lib.hid (HXa1.out.on hbp); clear HXa1; have HXa1 := HXa1_; clear HXa1_
  clear hbp hb
  clear fa0_0 fa0_1 fa1_0 fa1_1
  have fa0_0 : z1.cell? ⟨w.heap.size, 0, none⟩ = some (.int .i64 a0.1) := HXa0.out.cell 0
  have fa0_1 : z1.cell? ⟨w.heap.size, 1, none⟩ = some (.slice Aa01 a0.2.length ca01) := HXa0.out.cell 1
  have fa1_0 : z1.cell? ⟨w.heap.size + 1, 0, none⟩ = some (.int .i64 a1.1) := HXa1.out.cell 0
  have fa1_1 : z1.cell? ⟨w.heap.size + 1, 1, none⟩ = some (.slice Aa11 a1.2.length ca11) := HXa1.out.cell 1
  go_wp2_with fail
  go_region_held3 (fun w' => w'.cell? ⟨w.heap.size, 0, none⟩ = some (.int .i64 a0.1) ∧ w'.cell? ⟨w.heap.size, 1, none⟩ = some (.slice Aa01 a0.2.length ca01) ∧ w'.cell? ⟨w.heap.size + 1, 0, none⟩ = some (.int .i64 a1.1) ∧ w'.cell? ⟨w.heap.size + 1, 1, none⟩ = some (.slice Aa11 a1.2.length ca11)) (first | (simp [go_sem, *]; done) | (refine ⟨?_, ?_, ?_, ?_⟩ <;> assumption))
    (first
      | (go_at_call 27; refine (to_MultiConfig _ a0 _ (by exact eMultiConfig.on H0.out (HBz1.out.drew)) HC0.out).mono ?_; rintro e ws0 ⟨ess0, rfl, ho, hb⟩; (have hR := eMultiConfig.read ho); (have HSs0 := Lib.hid (eMultiConfig.omore ho (Iv.mono (l' := z1.heap.size) (h' := ws0.heap.size) (by first | exact Nat.le_refl _ | (simp only [World.size_alloc, World.size_drew]; omega) | (simp; omega)) (Nat.le_refl _))); clear ho); (obtain ⟨As01, cs01, rfl, gs00, gs01⟩ := shape_MultiConfig hR); (clear gs00 gs01); (try clear hR); (have hbp : Below z1.heap.size z1 ws0 := below_trans ((Below.refl _ _).drew) hb); (have Zws0 : Hid (z1.heap.size + 0 ≤ ws0.heap.size) := by have h1 := hb.size; (try simp only [World.size_alloc, World.size_drew] at h1); show _ ≤ _; omega); (have HBws0 := Lib.hid (below_trans HBz1.out hbp)); (have HXa0_ := Lib.hid (HXa0.out.on hbp); clear HXa0; have HXa0 := HXa0_; clear HXa0_); (have HXa1_ := Lib.hid (HXa1.out.on hbp); clear HXa1; have HXa1 := HXa1_; clear HXa1_); (clear hbp hb); (clear fa0_0 fa0_1 fa1_0 fa1_1); (have fa0_0 : ws0.cell? ⟨w.heap.size, 0, none⟩ = some (.int .i64 a0.1) := HXa0.out.cell 0); (have fa0_1 : ws0.cell? ⟨w.heap.size, 1, none⟩ = some (.slice Aa01 a0.2.length ca01) := HXa0.out.cell 1); (have fa1_0 : ws0.cell? ⟨w.heap.size + 1, 0, none⟩ = some (.int .i64 a1.1) := HXa1.out.cell 0); (have fa1_1 : ws0.cell? ⟨w.heap.size + 1, 1, none⟩ = some (.slice Aa11 a1.2.length ca11) := HXa1.out.cell 1))
      | (go_at_call 27; refine (to_MultiConfig _ a1 _ (by exact eMultiConfig.on H1.out HBws0.out) HC1.out).mono ?_; rintro e ws1 ⟨ess1, rfl, ho, hb⟩; (have hR := eMultiConfig.read ho); (have HSs1 := Lib.hid (eMultiConfig.omore ho (Iv.mono (l' := ws0.heap.size) (h' := ws1.heap.size) (by first | exact Nat.le_refl _ | (simp only [World.size_alloc, World.size_drew]; omega) | (simp; omega)) (Nat.le_refl _))); clear ho); (obtain ⟨As11, cs11, rfl, gs10, gs11⟩ := shape_MultiConfig hR); (clear gs10 gs11); (try clear hR); (have hbp : Below ws0.heap.size ws0 ws1 := hb); (have Zws1 : Hid (ws0.heap.size + 0 ≤ ws1.heap.size) := by have h1 := hb.size; (try simp only [World.size_alloc, World.size_drew] at h1); show _ ≤ _; omega); (have HBws1 := Lib.hid (below_trans HBws0.out hbp)); (have HXa0_ := Lib.hid (HXa0.out.on hbp); clear HXa0; have HXa0 := HXa0_; clear HXa0_); (have HXa1_ := Lib.hid (HXa1.out.on hbp); clear HXa1; have HXa1 := HXa1_; clear HXa1_); (have HSs0_ := Lib.hid (eMultiConfig.okeep HSs0.out (fun b hS => hbp.block b (by have q1 := hS.1; have q2 := hS.2; have zz0 := Zz0.out; have zz1 := Zz1.out; have zws0 := Zws0.out; omega))); clear HSs0; have HSs0 := HSs0_; clear HSs0_); (clear hbp hb); (clear fa0_0 fa0_1 fa1_0 fa1_1); (have fa0_0 : ws1.cell? ⟨w.heap.size, 0, none⟩ = some (.int .i64 a0.1) := HXa0.out.cell 0); (have fa0_1 : ws1.cell? ⟨w.heap.size, 1, none⟩ = some (.slice Aa01 a0.2.length ca01) := HXa0.out.cell 1); (have fa1_0 : ws1.cell? ⟨w.heap.size + 1, 0, none⟩ = some (.int .i64 a1.1) := HXa1.out.cell 0); (have fa1_1 : ws1.cell? ⟨w.heap.size + 1, 1, none⟩ = some (.slice Aa11 a1.2.length ca11) := HXa1.out.cell 1))
      | (go_at_call 26; refine (spec_SameMultiConfig _ a0 _ a1 _ (by exact (eMultiConfig.more (eMultiConfig.read HSs0.out) (fun b hS => (by have q2 := hS.2; show _ < _; have zz0 := Zz0.out; have zz1 := Zz1.out; have zws0 := Zws0.out; have zws1 := Zws1.out; omega)))) (by exact (eMultiConfig.more (eMultiConfig.read HSs1.out) (fun b hS => (by have q2 := hS.2; show _ < _; have zz0 := Zz0.out; have zz1 := Zz1.out; have zws0 := Zws0.out; have zws1 := Zws1.out; omega))))).mono ?_; rintro e v0 ⟨rfl, hb⟩; (clear HSs0); (clear HSs1); (have hbp : Below ws1.heap.size ws1 v0 := hb); (have Zv0 : Hid (ws1.heap.size + 0 ≤ v0.heap.size) := by have h1 := hb.size; (try simp only [World.size_alloc, World.size_drew] at h1); show _ ≤ _; omega); (have HBv0 := Lib.hid (below_trans HBws1.out hbp)); (have HXa0_ := Lib.hid (HXa0.out.on hbp); clear HXa0; have HXa0 := HXa0_; clear HXa0_); (have HXa1_ := Lib.hid (HXa1.out.on hbp); clear HXa1; have HXa1 := HXa1_; clear HXa1_); (clear hbp hb); (clear fa0_0 fa0_1 fa1_0 fa1_1); (have fa0_0 : v0.cell? ⟨w.heap.size, 0, none⟩ = some (.int .i64 a0.1) := HXa0.out.cell 0); (have fa0_1 : v0.cell? ⟨w.heap.size, 1, none⟩ = some (.slice Aa01 a0.2.length ca01) := HXa0.out.cell 1); (have fa1_0 : v0.cell? ⟨w.heap.size + 1, 0, none⟩ = some (.int .i64 a1.1) := HXa1.out.cell 0); (have fa1_1 : v0.cell? ⟨w.heap.size + 1, 1, none⟩ = some (.slice Aa11 a1.2.length ca11) := HXa1.out.cell 1)))
  have HVv0 := Lib.hid (Below.refl v0.heap.size v0)
  go_wp2_with fail
  refine (to_MultiConfig _ a0 _ (by exact eMultiConfig.on H0.out HBv0.out) HC0.out).mono ?_
  rintro e wx0 ⟨esx0, rfl, ho, hb⟩
  have hR := eMultiConfig.read ho
  have HSx0 := Lib.hid (eMultiConfig.omore ho (Iv.mono (l' := v0.heap.size) (h' := wx0.heap.size) (by first | exact Nat.le_refl _ | (simp only [World.size_alloc, World.size_drew]; omega) | (simp; omega)) (Nat.le_refl _))); clear ho
  obtain ⟨Ax01, cx01, rfl, gx00, gx01⟩ := shape_MultiConfig hR
  clear gx00 gx01
  try clear hR
  have hbp : Below v0.heap.size v0 wx0 := hb
  have Zwx0 : Hid (v0.heap.size + 0 ≤ wx0.heap.size) := by have h1 := hb.size; (try simp only [World.size_alloc, World.size_drew] at h1); show _ ≤ _; omega
  have HBwx0 := Lib.hid (below_trans HBv0.out hbp)
  have HVwx0 := Lib.hid (HVv0.out.trans (hbp.mono HVv0.out.size))
  have HXa0_ := Lib.hid (HXa0.out.on hbp); clear HXa0; have HXa0 := HXa0_; clear HXa0_
  have HXa1_ := Lib.hid (HXa1.out.on hbp); clear HXa1; have HXa1 := HXa1_; clear HXa1_
  clear hbp hb
  clear fa0_0 fa0_1 fa1_0 fa1_1
  have fa0_0 : wx0.cell? ⟨w.heap.size, 0, none⟩ = some (.int .i64 a0.1) := HXa0.out.cell 0
  have fa0_1 : wx0.cell? ⟨w.heap.size, 1, none⟩ = some (.slice Aa01 a0.2.length ca01) := HXa0.out.cell 1
  have fa1_0 : wx0.cell? ⟨w.heap.size + 1, 0, none⟩ = some (.int .i64 a1.1) := HXa1.out.cell 0
  have fa1_1 : wx0.cell? ⟨w.heap.size + 1, 1, none⟩ = some (.slice Aa11 a1.2.length ca11) := HXa1.out.cell 1
  have ma0_0 : (wx0.alloc (.cells #[.int .i64 a0.1, .slice Ax01 a0.2.length cx01] 45)).cell? ⟨w.heap.size, 0, none⟩ = some (.int .i64 a0.1) := (HXa0.out.alloc _).cell 0
  have ma0_1 : (wx0.alloc (.cells #[.int .i64 a0.1, .slice Ax01 a0.2.length cx01] 45)).cell? ⟨w.heap.size, 1, none⟩ = some (.slice Aa01 a0.2.length ca01) := (HXa0.out.alloc _).cell 1
  have ma1_0 : (wx0.alloc (.cells #[.int .i64 a0.1, .slice Ax01 a0.2.length cx01] 45)).cell? ⟨w.heap.size + 1, 0, none⟩ = some (.int .i64 a1.1) := (HXa1.out.alloc _).cell 0
  have ma1_1 : (wx0.alloc (.cells #[.int .i64 a0.1, .slice Ax01 a0.2.length cx01] 45)).cell? ⟨w.heap.size + 1, 1, none⟩ = some (.slice Aa11 a1.2.length ca11) := (HXa1.out.alloc _).cell 1
  have mx0_0 : (wx0.alloc (.cells #[.int .i64 a0.1, .slice Ax01 a0.2.length cx01] 45)).cell? ⟨wx0.heap.size, 0, none⟩ = some (.int .i64 a0.1) := (Blk.new wx0 45 #[.int .i64 a0.1, .slice Ax01 a0.2.length cx01]).cell 0
  have mx0_1 : (wx0.alloc (.cells #[.int .i64 a0.1, .slice Ax01 a0.2.length cx01] 45)).cell? ⟨wx0.heap.size, 1, none⟩ = some (.slice Ax01 a0.2.length cx01) := (Blk.new wx0 45 #[.int .i64 a0.1, .slice Ax01 a0.2.length cx01]).cell 1
  go_wp2_with fail
  refine (to_MultiConfig _ a1 _ (by exact eMultiConfig.on H1.out (below_alloc HBwx0.out (.cells #[.int .i64 a0.1, .slice Ax01 a0.2.length cx01] 45))) HC1.out).mono ?_
  rintro e wx1 ⟨esx1, rfl, ho, hb⟩
  have hR := eMultiConfig.read ho
  have HSx1 := Lib.hid (eMultiConfig.omore ho (Iv.mono (l' := wx0.heap.size + 1) (h' := wx1.heap.size) (by first | exact Nat.le_refl _ | (simp only [World.size_alloc, World.size_drew]; omega) | (simp; omega)) (Nat.le_refl _))); clear ho
  obtain ⟨Ax11, cx11, rfl, gx10, gx11⟩ := shape_MultiConfig hR
  clear gx10 gx11
  try clear hR
  have hbp : Below wx0.heap.size wx0 wx1 := below_trans (below_alloc (Below.refl _ _) (.cells #[.int .i64 a0.1, .slice Ax01 a0.2.length cx01] 45)) hb
  have Zwx1 : Hid (wx0.heap.size + 1 ≤ wx1.heap.size) := by have h1 := hb.size; (try simp only [World.size_alloc, World.size_drew] at h1); show _ ≤ _; omega
  have HBwx1 := Lib.hid (below_trans HBwx0.out hbp)
  have HVwx1 := Lib.hid (HVwx0.out.trans (hbp.mono HVwx0.out.size))
  have HXa0_ := Lib.hid (HXa0.out.on hbp); clear HXa0; have HXa0 := HXa0_; clear HXa0_
  have HXa1_ := Lib.hid (HXa1.out.on hbp); clear HXa1; have HXa1 := HXa1_; clear HXa1_
  have HXx0 := Lib.hid ((Blk.new wx0 45 #[.int .i64 a0.1, .slice Ax01 a0.2.length cx01]).on hb)
  have HSx0_ := Lib.hid (eMultiConfig.okeep HSx0.out (fun b hS => hbp.block b (by have q1 := hS.1; have q2 := hS.2; have zz0 := Zz0.out; have zz1 := Zz1.out; have zws0 := Zws0.out; have zws1 := Zws1.out; have zv0 := Zv0.out; have zwx0 := Zwx0.out; omega))); clear HSx0; have HSx0 := HSx0_; clear HSx0_
  clear hbp hb
  clear fa0_0 fa0_1 fa1_0 fa1_1 ma0_0 ma0_1 ma1_0 ma1_1 mx0_0 mx0_1
  have fa0_0 : wx1.cell? ⟨w.heap.size, 0, none⟩ = some (.int .i64 a0.1) := HXa0.out.cell 0
  have fa0_1 : wx1.cell? ⟨w.heap.size, 1, none⟩ = some (.slice Aa01 a0.2.length ca01) := HXa0.out.cell 1
  have fa1_0 : wx1.cell? ⟨w.heap.size + 1, 0, none⟩ = some (.int .i64 a1.1) := HXa1.out.cell 0
  have fa1_1 : wx1.cell? ⟨w.heap.size + 1, 1, none⟩ = some (.slice Aa11 a1.2.length ca11) := HXa1.out.cell 1
  have fx0_0 : wx1.cell? ⟨wx0.heap.size, 0, none⟩ = some (.int .i64 a0.1) := HXx0.out.cell 0
  have fx0_1 : wx1.cell? ⟨wx0.heap.size, 1, none⟩ = some (.slice Ax01 a0.2.length cx01) := HXx0.out.cell 1
  have ma0_0 : (wx1.alloc (.cells #[.int .i64 a1.1, .slice Ax11 a1.2.length cx11] 45)).cell? ⟨w.heap.size, 0, none⟩ = some (.int .i64 a0.1) := (HXa0.out.alloc _).cell 0
  have ma0_1 : (wx1.alloc (.cells #[.int .i64 a1.1, .slice Ax11 a1.2.length cx11] 45)).cell? ⟨w.heap.size, 1, none⟩ = some (.slice Aa01 a0.2.length ca01) := (HXa0.out.alloc _).cell 1
  have ma1_0 : (wx1.alloc (.cells #[.int .i64 a1.1, .slice Ax11 a1.2.length cx11] 45)).cell? ⟨w.heap.size + 1, 0, none⟩ = some (.int .i64 a1.1) := (HXa1.out.alloc _).cell 0
  have ma1_1 : (wx1.alloc (.cells #[.int .i64 a1.1, .slice Ax11 a1.2.length cx11] 45)).cell? ⟨w.heap.size + 1, 1, none⟩ = some (.slice Aa11 a1.2.length ca11) := (HXa1.out.alloc _).cell 1
  have mx0_0 : (wx1.alloc (.cells #[.int .i64 a1.1, .slice Ax11 a1.2.length cx11] 45)).cell? ⟨wx0.heap.size, 0, none⟩ = some (.int .i64 a0.1) := (HXx0.out.alloc _).cell 0
  have mx0_1 : (wx1.alloc (.cells #[.int .i64 a1.1, .slice Ax11 a1.2.length cx11] 45)).cell? ⟨wx0.heap.size, 1, none⟩ = some (.slice Ax01 a0.2.length cx01) := (HXx0.out.alloc _).cell 1
  have mx1_0 : (wx1.alloc (.cells #[.int .i64 a1.1, .slice Ax11 a1.2.length cx11] 45)).cell? ⟨wx1.heap.size, 0, none⟩ = some (.int .i64 a1.1) := (Blk.new wx1 45 #[.int .i64 a1.1, .slice Ax11 a1.2.length cx11]).cell 0
  have mx1_1 : (wx1.alloc (.cells #[.int .i64 a1.1, .slice Ax11 a1.2.length cx11] 45)).cell? ⟨wx1.heap.size, 1, none⟩ = some (.slice Ax11 a1.2.length cx11) := (Blk.new wx1 45 #[.int .i64 a1.1, .slice Ax11 a1.2.length cx11]).cell 1
  go_wp2_with fail
  refine (impl_SameMultiConfig _ a0 _ a1 _ (by exact eMultiConfig.on (show eMultiConfig.R wx1 (Old wx1) _ _ from (eMultiConfig.more (eMultiConfig.read HSx0.out) (fun b hS => (by have q2 := hS.2; show _ < _; have zz0 := Zz0.out; have zz1 := Zz1.out; have zws0 := Zws0.out; have zws1 := Zws1.out; have zv0 := Zv0.out; have zwx0 := Zwx0.out; have zwx1 := Zwx1.out; omega)))) (below_alloc (Below.refl _ _) (.cells #[.int .i64 a1.1, .slice Ax11 a1.2.length cx11] 45))) (by exact eMultiConfig.on (show eMultiConfig.R wx1 (Old wx1) _ _ from (eMultiConfig.more (eMultiConfig.read HSx1.out) (fun b hS => (by have q2 := hS.2; show _ < _; have zz0 := Zz0.out; have zz1 := Zz1.out; have zws0 := Zws0.out; have zws1 := Zws1.out; have zv0 := Zv0.out; have zwx0 := Zwx0.out; have zwx1 := Zwx1.out; omega)))) (below_alloc (Below.refl _ _) (.cells #[.int .i64 a1.1, .slice Ax11 a1.2.length cx11] 45)))).mono ?_
  rintro e vg ⟨rfl, hb⟩
  have hbp : Below wx1.heap.size wx1 vg := below_trans (below_alloc (Below.refl _ _) (.cells #[.int .i64 a1.1, .slice Ax11 a1.2.length cx11] 45)) hb
  have Zvg : Hid (wx1.heap.size + 1 ≤ vg.heap.size) := by have h1 := hb.size; (try simp only [World.size_alloc, World.size_drew] at h1); show _ ≤ _; omega
  have HBvg := Lib.hid (below_trans HBwx1.out hbp)
  have HVvg := Lib.hid (HVwx1.out.trans (hbp.mono HVwx1.out.size))
  have HXa0_ := Lib.hid (HXa0.out.on hbp); clear HXa0; have HXa0 := HXa0_; clear HXa0_
  have HXa1_ := Lib.hid (HXa1.out.on hbp); clear HXa1; have HXa1 := HXa1_; clear HXa1_
  have HXx0_ := Lib.hid (HXx0.out.on hbp); clear HXx0; have HXx0 := HXx0_; clear HXx0_
  have HXx1 := Lib.hid ((Blk.new wx1 45 #[.int .i64 a1.1, .slice Ax11 a1.2.length cx11]).on hb)
  have HSx0_ := Lib.hid (eMultiConfig.okeep HSx0.out (fun b hS => hbp.block b (by have q1 := hS.1; have q2 := hS.2; have zz0 := Zz0.out; have zz1 := Zz1.out; have zws0 := Zws0.out; have zws1 := Zws1.out; have zv0 := Zv0.out; have zwx0 := Zwx0.out; have zwx1 := Zwx1.out; omega))); clear HSx0; have HSx0 := HSx0_; clear HSx0_
  have HSx1_ := Lib.hid (eMultiConfig.okeep HSx1.out (fun b hS => hbp.block b (by have q1 := hS.1; have q2 := hS.2; have zz0 := Zz0.out; have zz1 := Zz1.out; have zws0 := Zws0.out; have zws1 := Zws1.out; have zv0 := Zv0.out; have zwx0 := Zwx0.out; have zwx1 := Zwx1.out; omega))); clear HSx1; have HSx1 := HSx1_; clear HSx1_
  clear hbp hb
  clear fa0_0 fa0_1 fa1_0 fa1_1 fx0_0 fx0_1 ma0_0 ma0_1 ma1_0 ma1_1 mx0_0 mx0_1 mx1_0 mx1_1
  have fa0_0 : vg.cell? ⟨w.heap.size, 0, none⟩ = some (.int .i64 a0.1) := HXa0.out.cell 0
  have fa0_1 : vg.cell? ⟨w.heap.size, 1, none⟩ = some (.slice Aa01 a0.2.length ca01) := HXa0.out.cell 1
  have fa1_0 : vg.cell? ⟨w.heap.size + 1, 0, none⟩ = some (.int .i64 a1.1) := HXa1.out.cell 0
  have fa1_1 : vg.cell? ⟨w.heap.size + 1, 1, none⟩ = some (.slice Aa11 a1.2.length ca11) := HXa1.out.cell 1
  have fx0_0 : vg.cell? ⟨wx0.heap.size, 0, none⟩ = some (.int .i64 a0.1) := HXx0.out.cell 0
  have fx0_1 : vg.cell? ⟨wx0.heap.size, 1, none⟩ = some (.slice Ax01 a0.2.length cx01) := HXx0.out.cell 1
  have fx1_0 : vg.cell? ⟨wx1.heap.size, 0, none⟩ = some (.int .i64 a1.1) := HXx1.out.cell 0
  have fx1_1 : vg.cell? ⟨wx1.heap.size, 1, none⟩ = some (.slice Ax11 a1.2.length cx11) := HXx1.out.cell 1
  go_wp2_with fail
  go_region_held3 (fun w' => w'.cell? ⟨w.heap.size, 0, none⟩ = some (.int .i64 a0.1) ∧ w'.cell? ⟨w.heap.size, 1, none⟩ = some (.slice Aa01 a0.2.length ca01) ∧ w'.cell? ⟨wx0.heap.size, 0, none⟩ = some (.int .i64 a0.1) ∧ w'.cell? ⟨wx0.heap.size, 1, none⟩ = some (.slice Ax01 a0.2.length cx01)) (first | (simp [go_sem, *]; done) | (refine ⟨?_, ?_, ?_, ?_⟩ <;> assumption))
    (first
      | (go_at_call 27; refine (to_MultiConfig _ a0 _ (by exact eMultiConfig.on H0.out (HBvg.out.drew)) HC0.out).mono ?_; rintro e wy0 ⟨esy0, rfl, ho, hb⟩; (have hR := eMultiConfig.read ho); (have HSy0 := Lib.hid (eMultiConfig.omore ho (Iv.mono (l' := vg.heap.size) (h' := wy0.heap.size) (by first | exact Nat.le_refl _ | (simp only [World.size_alloc, World.size_drew]; omega) | (simp; omega)) (Nat.le_refl _))); clear ho); (obtain ⟨Ay01, cy01, rfl, gy00, gy01⟩ := shape_MultiConfig hR); (clear gy00 gy01); (try clear hR); (have hbp : Below vg.heap.size vg wy0 := below_trans ((Below.refl _ _).drew) hb); (have Zwy0 : Hid (vg.heap.size + 0 ≤ wy0.heap.size) := by have h1 := hb.size; (try simp only [World.size_alloc, World.size_drew] at h1); show _ ≤ _; omega); (have HBwy0 := Lib.hid (below_trans HBvg.out hbp)); (have HVwy0 := Lib.hid (HVvg.out.trans (hbp.mono HVvg.out.size))); (have HXa0_ := Lib.hid (HXa0.out.on hbp); clear HXa0; have HXa0 := HXa0_; clear HXa0_); (have HXa1_ := Lib.hid (HXa1.out.on hbp); clear HXa1; have HXa1 := HXa1_; clear HXa1_); (have HXx0_ := Lib.hid (HXx0.out.on hbp); clear HXx0; have HXx0 := HXx0_; clear HXx0_); (have HXx1_ := Lib.hid (HXx1.out.on hbp); clear HXx1; have HXx1 := HXx1_; clear HXx1_); (have HSx0_ := Lib.hid (eMultiConfig.okeep HSx0.out (fun b hS => hbp.block b (by have q1 := hS.1; have q2 := hS.2; have zz0 := Zz0.out; have zz1 := Zz1.out; have zws0 := Zws0.out; have zws1 := Zws1.out; have zv0 := Zv0.out; have zwx0 := Zwx0.out; have zwx1 := Zwx1.out; have zvg := Zvg.out; omega))); clear HSx0; have HSx0 := HSx0_; clear HSx0_); (have HSx1_ := Lib.hid (eMultiConfig.okeep HSx1.out (fun b hS => hbp.block b (by have q1 := hS.1; have q2 := hS.2; have zz0 := Zz0.out; have zz1 := Zz1.out; have zws0 := Zws0.out; have zws1 := Zws1.out; have zv0 := Zv0.out; have zwx0 := Zwx0.out; have zwx1 := Zwx1.out; have zvg := Zvg.out; omega))); clear HSx1; have HSx1 := HSx1_; clear HSx1_); (clear hbp hb); (clear fa0_0 fa0_1 fa1_0 fa1_1 fx0_0 fx0_1 fx1_0 fx1_1); (have fa0_0 : wy0.cell? ⟨w.heap.size, 0, none⟩ = some (.int .i64 a0.1) := HXa0.out.cell 0); (have fa0_1 : wy0.cell? ⟨w.heap.size, 1, none⟩ = some (.slice Aa01 a0.2.length ca01) := HXa0.out.cell 1); (have fa1_0 : wy0.cell? ⟨w.heap.size + 1, 0, none⟩ = some (.int .i64 a1.1) := HXa1.out.cell 0); (have fa1_1 : wy0.cell? ⟨w.heap.size + 1, 1, none⟩ = some (.slice Aa11 a1.2.length ca11) := HXa1.out.cell 1); (have fx0_0 : wy0.cell? ⟨wx0.heap.size, 0, none⟩ = some (.int .i64 a0.1) := HXx0.out.cell 0); (have fx0_1 : wy0.cell? ⟨wx0.heap.size, 1, none⟩ = some (.slice Ax01 a0.2.length cx01) := HXx0.out.cell 1); (have fx1_0 : wy0.cell? ⟨wx1.heap.size, 0, none⟩ = some (.int .i64 a1.1) := HXx1.out.cell 0); (have fx1_1 : wy0.cell? ⟨wx1.heap.size, 1, none⟩ = some (.slice Ax11 a1.2.length cx11) := HXx1.out.cell 1))
      | (go_at_call 29; refine (eq_MultiConfig_c _ _ a0 a0 _ (by exact (eMultiConfig.more (eMultiConfig.read HSx0.out) (fun b hS => (by have q2 := hS.2; show _ < _; have zz0 := Zz0.out; have zz1 := Zz1.out; have zws0 := Zws0.out; have zws1 := Zws1.out; have zv0 := Zv0.out; have zwx0 := Zwx0.out; have zwx1 := Zwx1.out; have zvg := Zvg.out; have zwy0 := Zwy0.out; omega)))) (by exact (eMultiConfig.more (eMultiConfig.read HSy0.out) (fun b hS => (by have q2 := hS.2; show _ < _; have zz0 := Zz0.out; have zz1 := Zz1.out; have zws0 := Zws0.out; have zws1 := Zws1.out; have zv0 := Zv0.out; have zwx0 := Zwx0.out; have zwx1 := Zwx1.out; have zvg := Zvg.out; have zwy0 := Zwy0.out; omega))))).mono ?_; rintro e u0 ⟨rfl, hb⟩; rw [eq_MultiConfig_refl]; (clear HSy0); (have hbp : Below wy0.heap.size wy0 u0 := hb); (have Zu0 : Hid (wy0.heap.size + 0 ≤ u0.heap.size) := by have h1 := hb.size; (try simp only [World.size_alloc, World.size_drew] at h1); show _ ≤ _; omega); (have HBu0 := Lib.hid (below_trans HBwy0.out hbp)); (have HVu0 := Lib.hid (HVwy0.out.trans (hbp.mono HVwy0.out.size))); (have HXa0_ := Lib.hid (HXa0.out.on hbp); clear HXa0; have HXa0 := HXa0_; clear HXa0_); (have HXa1_ := Lib.hid (HXa1.out.on hbp); clear HXa1; have HXa1 := HXa1_; clear HXa1_); (have HXx0_ := Lib.hid (HXx0.out.on hbp); clear HXx0; have HXx0 := HXx0_; clear HXx0_); (have HXx1_ := Lib.hid (HXx1.out.on hbp); clear HXx1; have HXx1 := HXx1_; clear HXx1_); (have HSx0_ := Lib.hid (eMultiConfig.okeep HSx0.out (fun b hS => hbp.block b (by have q1 := hS.1; have q2 := hS.2; have zz0 := Zz0.out; have zz1 := Zz1.out; have zws0 := Zws0.out; have zws1 := Zws1.out; have zv0 := Zv0.out; have zwx0 := Zwx0.out; have zwx1 := Zwx1.out; have zvg := Zvg.out; have zwy0 := Zwy0.out; omega))); clear HSx0; have HSx0 := HSx0_; clear HSx0_); (have HSx1_ := Lib.hid (eMultiConfig.okeep HSx1.out (fun b hS => hbp.block b (by have q1 := hS.1; have q2 := hS.2; have zz0 := Zz0.out; have zz1 := Zz1.out; have zws0 := Zws0.out; have zws1 := Zws1.out; have zv0 := Zv0.out; have zwx0 := Zwx0.out; have zwx1 := Zwx1.out; have zvg := Zvg.out; have zwy0 := Zwy0.out; omega))); clear HSx1; have HSx1 := HSx1_; clear HSx1_); (clear hbp hb); (clear fa0_0 fa0_1 fa1_0 fa1_1 fx0_0 fx0_1 fx1_0 fx1_1); (have fa0_0 : u0.cell? ⟨w.heap.size, 0, none⟩ = some (.int .i64 a0.1) := HXa0.out.cell 0); (have fa0_1 : u0.cell? ⟨w.heap.size, 1, none⟩ = some (.slice Aa01 a0.2.length ca01) := HXa0.out.cell 1); (have fa1_0 : u0.cell? ⟨w.heap.size + 1, 0, none⟩ = some (.int .i64 a1.1) := HXa1.out.cell 0); (have fa1_1 : u0.cell? ⟨w.heap.size + 1, 1, none⟩ = some (.slice Aa11 a1.2.length ca11) := HXa1.out.cell 1); (have fx0_0 : u0.cell? ⟨wx0.heap.size, 0, none⟩ = some (.int .i64 a0.1) := HXx0.out.cell 0); (have fx0_1 : u0.cell? ⟨wx0.heap.size, 1, none⟩ = some (.slice Ax01 a0.2.length cx01) := HXx0.out.cell 1); (have fx1_0 : u0.cell? ⟨wx1.heap.size, 0, none⟩ = some (.int .i64 a1.1) := HXx1.out.cell 0); (have fx1_1 : u0.cell? ⟨wx1.heap.size, 1, none⟩ = some (.slice Ax11 a1.2.length cx11) := HXx1.out.cell 1)))
  go_wp2_with fail
  go_region_held3 (fun w' => w'.cell? ⟨w.heap.size + 1, 0, none⟩ = some (.int .i64 a1.1) ∧ w'.cell? ⟨w.heap.size + 1, 1, none⟩ = some (.slice Aa11 a1.2.length ca11) ∧ w'.cell? ⟨wx1.heap.size, 0, none⟩ = some (.int .i64 a1.1) ∧ w'.cell? ⟨wx1.heap.size, 1, none⟩ = some (.slice Ax11 a1.2.length cx11)) (first | (simp [go_sem, *]; done) | (refine ⟨?_, ?_, ?_, ?_⟩ <;> assumption))
    (first
      | (go_at_call 27; refine (to_MultiConfig _ a1 _ (by exact eMultiConfig.on H1.out (HBu0.out.drew)) HC1.out).mono ?_; rintro e wy1 ⟨esy1, rfl, ho, hb⟩; (have hR := eMultiConfig.read ho); (have HSy1 := Lib.hid (eMultiConfig.omore ho (Iv.mono (l' := u0.heap.size) (h' := wy1.heap.size) (by first | exact Nat.le_refl _ | (simp only [World.size_alloc, World.size_drew]; omega) | (simp; omega)) (Nat.le_refl _))); clear ho); (obtain ⟨Ay11, cy11, rfl, gy10, gy11⟩ := shape_MultiConfig hR); (clear gy10 gy11); (try clear hR); (have hbp : Below u0.heap.size u0 wy1 := below_trans ((Below.refl _ _).drew) hb); (have Zwy1 : Hid (u0.heap.size + 0 ≤ wy1.heap.size) := by have h1 := hb.size; (try simp only [World.size_alloc, World.size_drew] at h1); show _ ≤ _; omega); (have HBwy1 := Lib.hid (below_trans HBu0.out hbp)); (have HVwy1 := Lib.hid (HVu0.out.trans (hbp.mono HVu0.out.size))); (have HXa0_ := Lib.hid (HXa0.out.on hbp); clear HXa0; have HXa0 := HXa0_; clear HXa0_); (have HXa1_ := Lib.hid (HXa1.out.on hbp); clear HXa1; have HXa1 := HXa1_; clear HXa1_); (have HXx0_ := Lib.hid (HXx0.out.on hbp); clear HXx0; have HXx0 := HXx0_; clear HXx0_); (have HXx1_ := Lib.hid (HXx1.out.on hbp); clear HXx1; have HXx1 := HXx1_; clear HXx1_); (have HSx0_ := Lib.hid (eMultiConfig.okeep HSx0.out (fun b hS => hbp.block b (by have q1 := hS.1; have q2 := hS.2; have zz0 := Zz0.out; have zz1 := Zz1.out; have zws0 := Zws0.out; have zws1 := Zws1.out; have zv0 := Zv0.out; have zwx0 := Zwx0.out; have zwx1 := Zwx1.out; have zvg := Zvg.out; have zwy0 := Zwy0.out; have zu0 := Zu0.out; omega))); clear HSx0; have HSx0 := HSx0_; clear HSx0_); (have HSx1_ := Lib.hid (eMultiConfig.okeep HSx1.out (fun b hS => hbp.block b (by have q1 := hS.1; have q2 := hS.2; have zz0 := Zz0.out; have zz1 := Zz1.out; have zws0 := Zws0.out; have zws1 := Zws1.out; have zv0 := Zv0.out; have zwx0 := Zwx0.out; have zwx1 := Zwx1.out; have zvg := Zvg.out; have zwy0 := Zwy0.out; have zu0 := Zu0.out; omega))); clear HSx1; have HSx1 := HSx1_; clear HSx1_); (clear hbp hb); (clear fa0_0 fa0_1 fa1_0 fa1_1 fx0_0 fx0_1 fx1_0 fx1_1); (have fa0_0 : wy1.cell? ⟨w.heap.size, 0, none⟩ = some (.int .i64 a0.1) := HXa0.out.cell 0); (have fa0_1 : wy1.cell? ⟨w.heap.size, 1, none⟩ = some (.slice Aa01 a0.2.length ca01) := HXa0.out.cell 1); (have fa1_0 : wy1.cell? ⟨w.heap.size + 1, 0, none⟩ = some (.int .i64 a1.1) := HXa1.out.cell 0); (have fa1_1 : wy1.cell? ⟨w.heap.size + 1, 1, none⟩ = some (.slice Aa11 a1.2.length ca11) := HXa1.out.cell 1); (have fx0_0 : wy1.cell? ⟨wx0.heap.size, 0, none⟩ = some (.int .i64 a0.1) := HXx0.out.cell 0); (have fx0_1 : wy1.cell? ⟨wx0.heap.size, 1, none⟩ = some (.slice Ax01 a0.2.length cx01) := HXx0.out.cell 1); (have fx1_0 : wy1.cell? ⟨wx1.heap.size, 0, none⟩ = some (.int .i64 a1.1) := HXx1.out.cell 0); (have fx1_1 : wy1.cell? ⟨wx1.heap.size, 1, none⟩ = some (.slice Ax11 a1.2.length cx11) := HXx1.out.cell 1))
      | (go_at_call 29; refine (eq_MultiConfig_c _ _ a1 a1 _ (by exact (eMultiConfig.more (eMultiConfig.read HSx1.out) (fun b hS => (by have q2 := hS.2; show _ < _; have zz0 := Zz0.out; have zz1 := Zz1.out; have zws0 := Zws0.out; have zws1 := Zws1.out; have zv0 := Zv0.out; have zwx0 := Zwx0.out; have zwx1 := Zwx1.out; have zvg := Zvg.out; have zwy0 := Zwy0.out; have zu0 := Zu0.out; have zwy1 := Zwy1.out; omega)))) (by exact (eMultiConfig.more (eMultiConfig.read HSy1.out) (fun b hS => (by have q2 := hS.2; show _ < _; have zz0 := Zz0.out; have zz1 := Zz1.out; have zws0 := Zws0.out; have zws1 := Zws1.out; have zv0 := Zv0.out; have zwx0 := Zwx0.out; have zwx1 := Zwx1.out; have zvg := Zvg.out; have zwy0 := Zwy0.out; have zu0 := Zu0.out; have zwy1 := Zwy1.out; omega))))).mono ?_; rintro e u1 ⟨rfl, hb⟩; rw [eq_MultiConfig_refl]; (clear HSy1); (have hbp : Below wy1.heap.size wy1 u1 := hb); (have Zu1 : Hid (wy1.heap.size + 0 ≤ u1.heap.size) := by have h1 := hb.size; (try simp only [World.size_alloc, World.size_drew] at h1); show _ ≤ _; omega); (have HBu1 := Lib.hid (below_trans HBwy1.out hbp)); (have HVu1 := Lib.hid (HVwy1.out.trans (hbp.mono HVwy1.out.size))); (have HXa0_ := Lib.hid (HXa0.out.on hbp); clear HXa0; have HXa0 := HXa0_; clear HXa0_); (have HXa1_ := Lib.hid (HXa1.out.on hbp); clear HXa1; have HXa1 := HXa1_; clear HXa1_); (have HXx0_ := Lib.hid (HXx0.out.on hbp); clear HXx0; have HXx0 := HXx0_; clear HXx0_); (have HXx1_ := Lib.hid (HXx1.out.on hbp); clear HXx1; have HXx1 := HXx1_; clear HXx1_); (have HSx0_ := Lib.hid (eMultiConfig.okeep HSx0.out (fun b hS => hbp.block b (by have q1 := hS.1; have q2 := hS.2; have zz0 := Zz0.out; have zz1 := Zz1.out; have zws0 := Zws0.out; have zws1 := Zws1.out; have zv0 := Zv0.out; have zwx0 := Zwx0.out; have zwx1 := Zwx1.out; have zvg := Zvg.out; have zwy0 := Zwy0.out; have zu0 := Zu0.out; have zwy1 := Zwy1.out; omega))); clear HSx0; have HSx0 := HSx0_; clear HSx0_); (have HSx1_ := Lib.hid (eMultiConfig.okeep HSx1.out (fun b hS => hbp.block b (by have q1 := hS.1; have q2 := hS.2; have zz0 := Zz0.out; have zz1 := Zz1.out; have zws0 := Zws0.out; have zws1 := Zws1.out; have zv0 := Zv0.out; have zwx0 := Zwx0.out; have zwx1 := Zwx1.out; have zvg := Zvg.out; have zwy0 := Zwy0.out; have zu0 := Zu0.out; have zwy1 := Zwy1.out; omega))); clear HSx1; have HSx1 := HSx1_; clear HSx1_); (clear hbp hb); (clear fa0_0 fa0_1 fa1_0 fa1_1 fx0_0 fx0_1 fx1_0 fx1_1); (have fa0_0 : u1.cell? ⟨w.heap.size, 0, none⟩ = some (.int .i64 a0.1) := HXa0.out.cell 0); (have fa0_1 : u1.cell? ⟨w.heap.size, 1, none⟩ = some (.slice Aa01 a0.2.length ca01) := HXa0.out.cell 1); (have fa1_0 : u1.cell? ⟨w.heap.size + 1, 0, none⟩ = some (.int .i64 a1.1) := HXa1.out.cell 0); (have fa1_1 : u1.cell? ⟨w.heap.size + 1, 1, none⟩ = some (.slice Aa11 a1.2.length ca11) := HXa1.out.cell 1); (have fx0_0 : u1.cell? ⟨wx0.heap.size, 0, none⟩ = some (.int .i64 a0.1) := HXx0.out.cell 0); (have fx0_1 : u1.cell? ⟨wx0.heap.size, 1, none⟩ = some (.slice Ax01 a0.2.length cx01) := HXx0.out.cell 1); (have fx1_0 : u1.cell? ⟨wx1.heap.size, 0, none⟩ = some (.int .i64 a1.1) := HXx1.out.cell 0); (have fx1_1 : u1.cell? ⟨wx1.heap.size, 1, none⟩ = some (.slice Ax11 a1.2.length cx11) := HXx1.out.cell 1)))
  go_wp2
  go_ret
  exact ⟨rfl, HBu1.out⟩

end Go.Proofs.Ytfbgiipmbmdliaa
