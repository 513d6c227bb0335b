/- What the proof of FnExactRenameStates needs: contracts of the functions that it reaches, each once. -/
import Derived.Test.YthknelhboibbnaaProg
import Derived.Test.YthknelhboibbnaaQMem
import Derived.Test.YthknelhboibbnaaQOpen
import Derived.Test.YthknelhboibbnaaLRenameStatesa
import Derived.WalkKit
import Derived.WalkSpells
import Derived.Below
import Derived.LoopTactic
import Derived.Outline
import Derived.Deep.QuietTactic
import Derived.BigQuiet
import Derived.Deep.LoopGhost
import Derived.Handy
import Derived.Lib.Hide
import Derived.Shelf.Abstract
import Derived.StillTailTactics
import Derived.OwnWalk
import Derived.Maps.AppendAt
import Derived.RegionTactic
import Derived.Deep.RegionHeld3
import Derived.IntWalk
import Derived.Deep.Upon
import Derived.Laws.OwnMore
import Derived.Maps.AppendAt
import Derived.Lib.FrozenHead
import Derived.Lib.RuneBytes
import Derived.Lib.LaidTab
import Derived.Laws.StructEq
import Derived.Lib.SliceRun
import Derived.Lib.AppendZeros
import Derived.Shelf.SortG.Plain
import Derived.Shelf.SortG.SortNone
import Derived.Shelf.SlicesG.CompactI
import Derived.Shelf.SlicesG.SearchI
import Derived.Sort.OwnSortedInts
import Derived.Lib.RowBridge
import Derived.Lib.ItoaLen
import Derived.Lib.Join
import Derived.Shelf.Strconv.Itoa4
import Derived.Shelf.Strings.OnBuilder
import Derived.Shelf.Strings.BuilderK
import Derived.Shelf.Strings.BuilderRune
import Derived.Shelf.LaysM
import Derived.Ground.NamesProg
namespace Go.Proofs.Ythknelhboibbnaa
open Go.RowKit

set_option maxHeartbeats 1000000 in
theorem held_SRule_c (A : Option Addr) (c : Nat) (xs : List tRule) (k : Int) (w : World) (h : Sl eRule w (Old w) A c (mk_SRule xs k)) (hk : 0 ≤ k) (hk' : k + (ct_SRule xs : Int) ≤ 1000000000000) :
    Calls Try.prog 67 #[.slice A xs.length c, .int .i64 k] w fun e w' => e = .returned (.int .i64 (k + (ct_SRule xs : Int))) ∧ Below w.heap.size w w' := by
  have hlen := h.len
  have hL : (mk_SRule xs k).length = xs.length := mkL_len _ _ _ _
  rw [hL] at hlen
  have HLen := Lib.hid hL; clear hL
  have H := Lib.hid h; clear h
  have HC : Hid (ct_SRule xs = cntL ct_Rule xs) := rfl
  go_enter Try.func67, Try.ntmps67
  go_wp2
  go_loop [1, 5] (fun s1 s5 => ∃ (i : Nat) (q : Int), i ≤ xs.length ∧ s5 = .int .i64 i ∧ s1 = .int .i64 q ∧ 0 ≤ q ∧ q ≤ 1000000000000 ∧ Hid (q = k + (cntL ct_Rule (xs.take i) : Int))) (fun _ s5 => xs.length - (intOf s5).toNat)
  case atStart => exact ⟨0, k, Nat.zero_le _, rfl, rfl, hk, by omega, by show _ = _; simp [cntL]⟩
  case round =>
    obtain ⟨i, q, hi, rfl, rfl, hq0, hq1, HQ⟩ := hrel
    by_cases hlt : i < xs.length
    · have hltz : (i : Int) < (xs.length : Int) := by omega
      have HQ2 : Hid (q + 3 ≤ 1000000000000 ∧ q + 3 = k + (cntL ct_Rule (xs.take (i + 1)) : Int)) := by
        have h1 := cntL_take ct_Rule xs i hlt
        have h2 := cntL_le ct_Rule xs (i + 1)
        have h3 : ct_Rule xs[i] = 3 := rfl
        have h4 := HQ.out
        have h5 := HC.out
        refine ⟨?_, ?_⟩ <;> omega
      have hq2 := HQ2.out.1
      have hlt2 : i < (mk_SRule xs k).length := by rw [HLen.out]; exact hlt
      have HE : Hid ((mk_SRule xs k)[i] = mk_Rule xs[i] q) := by
        have h1 := mkL_get mk_Rule ct_Rule xs k i hlt
        rw [← HQ.out] at h1
        exact Option.some.inj ((List.getElem?_eq_getElem hlt2).symm.trans h1)
      obtain ⟨b, off, es, rfl, hb, hR, hc⟩ := H.out.at hlt2
      rw [HE.out] at hR
      obtain ⟨rfl, gq0, gq1, gq2⟩ := shape_Rule hR
      have d0 : w.cell? ⟨b, off + i * 3, none⟩ = some (.int .i64 (q)) := hc 0 _ rfl
      have d1 : w.cell? ⟨b, off + i * 3 + 1, none⟩ = some (.int .i64 (q + 1)) := hc 1 _ rfl
      have d2 : w.cell? ⟨b, off + i * 3 + 2, none⟩ = some (.int .i64 (q + 1 + 1)) := hc 2 _ rfl
      have t0 : (q != q) = false := by simp
      have t1 : (q + 1 != q + 1) = false := by simp
      have t2 : (q + 1 + 1 != q + 1 + 1) = false := by simp
      clear hc gq0 gq1 gq2
      try clear hR
      go_wp2
      go_round
      case rel => exact ⟨i + 1, q + 1 + 1 + 1, by omega, by go_num, rfl, by omega, by omega, by show _ = _; have := HQ2.out.2; omega⟩
      case measure => simp [intOf]; omega
    · have hltz : ¬ (i : Int) < (xs.length : Int) := by omega
      obtain rfl : i = xs.length := by omega
      have h2 := HQ.out
      rw [List.take_length] at h2
      have H2 := Lib.hid h2; clear h2
      go_wp2
      go_ret
      exact ⟨ret_int (by rw [H2.out, HC.out]), Below.refl _ _⟩

set_option maxRecDepth 100000 in
set_option maxHeartbeats 1000000 in
theorem mark_Machine_c (es : List Value) (x : tMachine) (k : Int) (w : World) (S : Nat → Prop) (h : eMachine.O w S es x) (hS : ∀ b, S b → b < w.heap.size) (hk : 0 ≤ k) (hk' : k + (cv_Machine x : Int) ≤ 1000000000000) :
    Calls Try.prog 28 #[.agg es.toArray, .int .i64 k] w fun e w' => e = .returned (.int .i64 (k + (cv_Machine x : Int))) ∧ eMachine.O w' S es (mv_Machine x k) ∧ Chg S w w' := by
  obtain ⟨_, _, S0, R0, rfl, p0, r0, ⟨rfl, g0⟩, ⟨_, _, S1, R1, rfl, p1, r1, ⟨rfl, g1⟩, ⟨A2, c2, rfl, o2⟩⟩⟩ := h
  have HB0 : Hid (Below w.heap.size w (w.alloc (.cells #[.int .i64 x.1, .int .i64 x.2.1, .slice A2 x.2.2.length c2] 48))) := (Below.refl _ _).alloc (Nat.le_refl _) _
  have HS0 := Lib.hid hS; clear hS
  have SUB2 : Hid (∀ b, R1 b → S b) := fun b hb => (r0 b (r1 b hb))
  have O2 := Lib.hid (o2.keep (w' := w.alloc (.cells #[.int .i64 x.1, .int .i64 x.2.1, .slice A2 x.2.2.length c2] 48)) fun b hb => Below.heap_alloc _ _ _ (HS0.out b (SUB2.out b hb))); clear o2
  have ct2 := Lib.hid (show (0 : Int) ≤ (ct_SRule x.2.2 : Int) from by omega)
  have HCT : Hid (cv_Machine x = ct_SRule x.2.2) := rfl
  go_enter Try.func28, Try.ntmps28
  go_wp2_with fail
  refine (mark_SRule_c _ _ x.2.2 _ _ R1 O2.out (fun b hb => Nat.lt_of_lt_of_le (HS0.out b (SUB2.out b hb)) HB0.out.size) (by omega) (by have := HCT.out; omega)).mono ?_
  rintro e w1 ⟨rfl, hs, hc⟩
  have HX : Hid (Blk w1 w.heap.size 48 #[.int .i64 x.1, .int .i64 x.2.1, .slice A2 x.2.2.length c2]) := (hc.block w.heap.size (by simp) (fun hb => Nat.lt_irrefl _ (HS0.out _ (SUB2.out _ hb)))).trans (Blk.new w 48 #[.int .i64 x.1, .int .i64 x.2.1, .slice A2 x.2.2.length c2])
  clear O2; have O2 := Lib.hid hs; clear hs
  have HG1 : Hid (Chg S (w.alloc (.cells #[.int .i64 x.1, .int .i64 x.2.1, .slice A2 x.2.2.length c2] 48)) w1) := hc.mono SUB2.out
  clear hc
  have HXo := HX; clear HX
  have x0 : w1.cell? ⟨w.heap.size, 0, none⟩ = some (.int .i64 x.1) := HXo.out.cell 0
  have x1 : w1.cell? ⟨w.heap.size, 1, none⟩ = some (.int .i64 x.2.1) := HXo.out.cell 1
  have x2 : w1.cell? ⟨w.heap.size, 2, none⟩ = some (.slice A2 x.2.2.length c2) := HXo.out.cell 2
  go_wp2
  go_ret
  refine ⟨ret_int (by have := HCT.out; omega), ?_, (Chg.of_below HB0.out).trans HG1.out⟩
  exact ⟨[_], _, S0, R0, rfl, p0, r0, ⟨rfl, g0⟩, ⟨[_], _, S1, R1, rfl, p1, r1, ⟨rfl, g1⟩, ⟨A2, c2, congrArg (fun m => [Value.slice A2 m c2]) (show x.2.2.length = (mv_Machine x k).2.2.length from (mkL_len _ _ _ _).symm), O2.out⟩⟩⟩

set_option maxRecDepth 100000 in
set_option maxHeartbeats 1000000 in
theorem held_Machine_c (es : List Value) (x : tMachine) (k : Int) (w : World) (h : eMachine.R w (Old w) es (mv_Machine x k)) (hk : 0 ≤ k) (hk' : k + (cv_Machine x : Int) ≤ 1000000000000) :
    Calls Try.prog 30 #[.agg es.toArray, .int .i64 k] w fun e w' => e = .returned (.int .i64 (k + (cv_Machine x : Int))) ∧ Below w.heap.size w w' := by
  obtain ⟨A2, c2, rfl, g0, g1, g2⟩ := shape_Machine h
  have e2 : (mv_Machine x k).2.2.length = x.2.2.length := mkL_len _ _ _ _
  try clear h
  rw [e2]
  clear e2
  show Calls Try.prog 30 #[.agg #[.int .i64 x.1, .int .i64 x.2.1, .slice A2 x.2.2.length c2], .int .i64 k] w _
  have HB0 : Hid (Below w.heap.size w (w.alloc (.cells #[.int .i64 x.1, .int .i64 x.2.1, .slice A2 x.2.2.length c2] 48))) := (Below.refl _ _).alloc (Nat.le_refl _) _
  have HX := Lib.hid (Blk.new w 48 #[.int .i64 x.1, .int .i64 x.2.1, .slice A2 x.2.2.length c2])
  have O2 := Lib.hid (g2.on HB0.out); clear g2
  have HCT : Hid (cv_Machine x = ct_SRule x.2.2) := rfl
  go_enter Try.func30, Try.ntmps30
  go_wp2_with fail
  refine (held_SRule_c _ _ x.2.2 _ _ (by exact O2.out) (by omega) (by have := HCT.out; omega)).mono ?_
  rintro e w1 ⟨rfl, hb⟩
  have HB1 := Lib.hid hb; clear hb
  have x0 : w1.cell? ⟨w.heap.size, 0, none⟩ = some (.int .i64 x.1) := (HX.out.on HB1.out).cell 0
  have x1 : w1.cell? ⟨w.heap.size, 1, none⟩ = some (.int .i64 x.2.1) := (HX.out.on HB1.out).cell 1
  have x2 : w1.cell? ⟨w.heap.size, 2, none⟩ = some (.slice A2 x.2.2.length c2) := (HX.out.on HB1.out).cell 2
  have n0 : ¬ k + (ct_SRule x.2.2 : Int) < 0 := by omega
  go_wp2
  go_ret
  exact ⟨ret_int (by have := HCT.out; omega), below_trans HB0.out HB1.out⟩

theorem cntL_const {α : Type} (c : α → Nat) (n : Nat) (xs : List α) (h : ∀ x, c x = n) : cntL c xs = n * xs.length := by
  unfold cntL
  induction xs with
  | nil => simp
  | cons x xs ih => rw [List.map_cons, List.sum_cons, ih, h, List.length_cons, Nat.mul_succ]; omega

theorem ct_cost_L (xs : List Int) : ct_L xs ≤ 4 * cost_L xs := by
  have := cntL_const ct_i 1 xs fun _ => rfl
  unfold ct_L cost_L; omega

/-- A slice of the call's own, from block `base` on, holding flat elements. -/
def Row {α : Type} (E : Enc α) (enc : α → List Value) (t : TypeId) (w : World) (base : Nat) (v : Value) (xs : List α) : Prop :=
  w.ownsRow base t E.size v xs.length (xs.flatMap enc) ∧ ∀ x ∈ xs, ∀ W : World, E.O W (fun _ => False) (enc x) x

theorem flat_get {α : Type} (enc : α → List Value) (s : Nat) : ∀ (xs : List α), (∀ x ∈ xs, (enc x).length = s) → ∀ (i : Nat) (x : α), xs[i]? = some x → ∀ j, j < s → (xs.flatMap enc)[i * s + j]? = (enc x)[j]?
  | [], _, i, x, hx, _, _ => by simp at hx
  | y :: ys, h, 0, x, hx, j, hj => by
    simp at hx; subst hx
    rw [List.flatMap_cons, Nat.zero_mul, Nat.zero_add, List.getElem?_append_left (by rw [h y (by simp)]; exact hj)]
  | y :: ys, h, i + 1, x, hx, j, hj => by
    have hy := h y (by simp)
    rw [List.flatMap_cons, Nat.succ_mul, List.getElem?_append_right (by rw [hy]; omega), hy, show i * s + s + j - s = i * s + j from by omega]
    exact flat_get enc s ys (fun z hz => h z (by simp [hz])) i x (by simpa using hx) j hj

theorem Row.so {α : Type} {E : Enc α} {enc : α → List Value} {t : TypeId} {w0 w : World} {v : Value} {xs : List α} (h : Row E enc t w w0.heap.size v xs) : ∃ A c, v = .slice A xs.length c ∧ So E w (Fr w0 w) A c xs := by
  obtain ⟨h1, h2⟩ := h
  rcases h1.2 with ⟨rfl, hn⟩ | ⟨g, cap, cur, rfl, hg, hh, hnc, hcm, hcs, htk⟩
  · have hx : xs = [] := List.eq_nil_of_length_eq_zero hn
    subst hx
    exact ⟨none, 0, rfl, So.nil (Nat.zero_le _)⟩
  · refine ⟨_, cap, rfl, hnc, hcm, fun hne => ⟨g, 0, t, cur, fun _ _ => False, rfl, ⟨hg, Blk.lt (t := t) (cur := cur) hh⟩, hh, fun _ _ h => h.elim, fun _ _ _ h => h.elim, fun i x hx => ⟨enc x, h2 x (List.mem_of_getElem? hx) w, fun j u hu => ?_⟩⟩⟩
    have hi := (List.getElem?_eq_some_iff.1 hx).1
    have hj := (List.getElem?_eq_some_iff.1 hu).1
    have hl : ∀ y ∈ xs, (enc y).length = E.size := fun y hy => E.len (E.read (h2 y hy w))
    rw [hl x (List.mem_of_getElem? hx)] at hj
    have h3 := flat_get enc E.size xs hl i x hx j hj
    rw [← htk] at h3
    have hlt : i * E.size + j < xs.length * E.size := by
      have : (i + 1) * E.size ≤ xs.length * E.size := Nat.mul_le_mul_right _ (by omega)
      rw [Nat.succ_mul] at this; omega
    rw [List.getElem?_take_of_lt hlt, Array.getElem?_toList] at h3
    rw [Nat.zero_add, h3]; exact hu

theorem Row.nil {α : Type} {E : Enc α} {enc : α → List Value} {t : TypeId} {w : World} {base : Nat} : Row E enc t w base (.slice none 0 0) [] := ⟨World.ownsRow_nil _ _ _ _, fun _ h => by simp at h⟩

/-- `[]T{}`: an empty row of its own. -/
theorem Row.empty {α : Type} {E : Enc α} {enc : α → List Value} {t : TypeId} {w : World} {base : Nat} (hb : base ≤ w.heap.size) : Row E enc t (w.alloc (.cells #[] t)) base (.slice (some ⟨w.heap.size, 0, none⟩) 0 0) [] :=
  ⟨⟨by simp, .inr ⟨_, 0, #[], rfl, hb, Blk.new w t #[], Nat.le_refl _, Nat.zero_le _, by simp, by simp⟩⟩, fun _ h => by simp at h⟩

def encInt (x : Int) : List Value := [.int .i64 x]

theorem Row.keep {α : Type} {E : Enc α} {enc : α → List Value} {t : TypeId} {w w' : World} {base : Nat} {v : Value} {xs : List α} (h : Row E enc t w base v xs) (hk : ∀ b, v.ownBlock = some b → w'.heap[b]? = w.heap[b]?) : Row E enc t w' base v xs := by
  obtain ⟨⟨h1, h2⟩, h3⟩ := h
  refine ⟨⟨h1, ?_⟩, h3⟩
  rcases h2 with h2 | ⟨g, cap, cur, rfl, hg, hh, r⟩
  · exact .inl h2
  · exact .inr ⟨g, cap, cur, rfl, hg, (hk g rfl).trans hh, r⟩

theorem Row.lt {α : Type} {E : Enc α} {enc : α → List Value} {t : TypeId} {w : World} {base : Nat} {v : Value} {xs : List α} (h : Row E enc t w base v xs) : ∀ b, v.ownBlock = some b → base ≤ b ∧ b < w.heap.size := h.1.lt

theorem Row.on {α : Type} {E : Enc α} {enc : α → List Value} {t : TypeId} {w w' : World} {base : Nat} {v : Value} {xs : List α} (h : Row E enc t w base v xs) (hb : Below w.heap.size w w') : Row E enc t w' base v xs := h.keep fun b hv => hb.block b (h.lt b hv).2

theorem Row.snoc {α : Type} {E : Enc α} {enc : α → List Value} {t : TypeId} {w w' : World} {base : Nat} {v v' : Value} {xs : List α} {x : α} (h : Row E enc t w base v xs) (ho : w'.ownsRow base t E.size v' (xs.length + 1) (xs.flatMap enc ++ enc x)) (hx : ∀ W : World, E.O W (fun _ => False) (enc x) x) : Row E enc t w' base v' (xs ++ [x]) := by
  refine ⟨?_, fun y hy => ?_⟩
  · rw [List.length_append, List.length_singleton, List.flatMap_append]
    simpa using ho
  · rcases List.mem_append.1 hy with h1 | h1
    · exact h.2 y h1
    · rw [List.mem_singleton.1 h1]; exact hx

/-- Elements whose cells lead nowhere. -/
structure Flat {α : Type} (E : Enc α) (enc : α → List Value) : Prop where
  r : ∀ {W : World} {S : Nat → Prop} {cs : List Value} {x : α}, E.R W S cs x → cs = enc x ∧ ∀ W' : World, E.O W' (fun _ => False) (enc x) x
  one : ∀ (x : α), ∀ u ∈ enc x, u.oneCell' = true

theorem flat_int : Flat eInt encInt := ⟨fun h => ⟨h.1, fun _ => ⟨rfl, h.2⟩⟩, fun x u hu => by simp [encInt] at hu; subst hu; rfl⟩

theorem flatMap_at {α : Type} (enc : α → List Value) (s : Nat) (hs : 0 < s) : ∀ (ys : List α), (∀ y ∈ ys, (enc y).length = s) → ∀ (j : Nat) (u : Value), (ys.flatMap enc)[j]? = some u → ∃ y, ys[j / s]? = some y ∧ (enc y)[j % s]? = some u
  | [], _, j, u, h => by simp at h
  | y :: ys, hl, j, u, h => by
    have hy := hl y (by simp)
    rw [List.flatMap_cons] at h
    by_cases hj : j < s
    · rw [List.getElem?_append_left (by omega)] at h
      exact ⟨y, by rw [Nat.div_eq_of_lt hj]; rfl, by rw [Nat.mod_eq_of_lt hj]; exact h⟩
    · rw [List.getElem?_append_right (by omega), hy] at h
      obtain ⟨z, h1, h2⟩ := flatMap_at enc s hs ys (fun z hz => hl z (by simp [hz])) (j - s) u h
      refine ⟨z, ?_, ?_⟩
      · rw [Nat.div_eq_sub_div hs (by omega), List.getElem?_cons_succ]; exact h1
      · rw [Nat.mod_eq_sub_mod (by omega)]; exact h2

theorem flatMap_len {α : Type} (enc : α → List Value) (s : Nat) (ys : List α) (h : ∀ y ∈ ys, (enc y).length = s) : (ys.flatMap enc).length = ys.length * s := by
  induction ys with
  | nil => simp
  | cons y ys ih => rw [List.flatMap_cons, List.length_append, ih (fun z hz => h z (by simp [hz])), h y (by simp), List.length_cons, Nat.succ_mul]; omega

theorem Flat.sl {α : Type} {E : Enc α} {enc : α → List Value} (hf : Flat E enc) {w : World} {S : Nat → Prop} {A : Option Addr} {c : Nat} {ys : List α} (h : Sl E w S A c ys) : ∀ y ∈ ys, ∀ W : World, E.O W (fun _ => False) (enc y) y := by
  intro y hy
  obtain ⟨i, hi, rfl⟩ := List.getElem_of_mem hy
  obtain ⟨b, off, es, _, _, h1, _⟩ := h.at hi
  exact (hf.r h1).2

theorem Flat.len {α : Type} {E : Enc α} {enc : α → List Value} {y : α} (h : ∀ W : World, E.O W (fun _ => False) (enc y) y) : (enc y).length = E.size := E.len (E.read (h default))

theorem Flat.cells {α : Type} {E : Enc α} {enc : α → List Value} (hf : Flat E enc) {w : World} {S : Nat → Prop} {b off : Nat} {c : Nat} {ys : List α} (h : Sl E w S (some ⟨b, off, none⟩) c ys) : ∀ j u, (ys.flatMap enc)[j]? = some u → w.cell? ((⟨b, off, none⟩ : Addr).add j) = some u := by
  intro j u hu
  obtain ⟨y, h1, h2⟩ := flatMap_at enc E.size E.pos ys (fun y hy => Flat.len (hf.sl h y hy)) j u hu
  have hi := (List.getElem?_eq_some_iff.1 h1).1
  obtain ⟨b', off', es, hA, _, h3, h4⟩ := h.at hi
  simp only [Option.some.injEq, Addr.mk.injEq, and_true] at hA
  obtain ⟨rfl, rfl⟩ := hA
  have hy : ys[j / E.size] = y := (List.getElem?_eq_some_iff.1 h1).2
  rw [hy] at h3
  rw [(hf.r h3).1] at h4
  have := h4 (j % E.size) u h2
  rw [show off + j / E.size * E.size + j % E.size = off + j from by rw [Nat.add_assoc, Nat.div_add_mod']] at this
  rw [Addr.add_lit]; exact this

/-- The facts on a type of elements that an append wants. -/
structure Elem {α : Type} (P : Program) (E : Enc α) (t e : TypeId) (bytes : Nat) : Prop where
  under : P.underlying t = some (.slice e)
  info : ∃ i z, P.info? e = some i ∧ i.zero = some z ∧ i.size = E.size ∧ i.bytes = bytes ∧ z.cells.size = E.size

theorem Row.all {α : Type} {E : Enc α} {enc : α → List Value} {t : TypeId} {w : World} {base : Nat} {v : Value} {xs ys : List α} (h : Row E enc t w base v xs) {w' : World} {v' : Value} (ho : w'.ownsRow base t E.size v' (xs.length + ys.length) (xs.flatMap enc ++ ys.flatMap enc)) (hy : ∀ y ∈ ys, ∀ W : World, E.O W (fun _ => False) (enc y) y) : Row E enc t w' base v' (xs ++ ys) := by
  refine ⟨by rw [List.length_append, List.flatMap_append]; exact ho, fun y hm => ?_⟩
  rcases List.mem_append.1 hm with h1 | h1
  · exact h.2 y h1
  · exact hy y h1

theorem Row.shape {α : Type} {E : Enc α} {enc : α → List Value} {t : TypeId} {w : World} {base : Nat} {v : Value} {xs : List α} (h : Row E enc t w base v xs) : ∃ A c, v = .slice A xs.length c ∧ xs.length ≤ c ∧ c ≤ maxLen := by
  rcases h.1.2 with ⟨rfl, hn⟩ | ⟨g, cap, cur, rfl, hg, hh, hnc, hcm, _⟩
  · exact ⟨none, 0, by rw [hn], by omega, Nat.zero_le _⟩
  · exact ⟨_, cap, rfl, hnc, hcm⟩

theorem run_append_row {α : Type} {P : Program} {E : Enc α} {enc : α → List Value} (hf : Flat E enc) {t e : TypeId} {bytes : Nat} (he : Elem P E t e bytes) (ty : TypeId) {w : World} {base : Nat} {v : Value} {xs ys : List α} (hR : Row E enc e w base v xs)
    {S : Nat → Prop} {A : Option Addr} {c : Nat} (hS : Sl E w S A c ys) (h63 : xs.length + ys.length ≤ maxLen) (hbytes : (xs.length + ys.length) * bytes ≤ 140737488355328) (hbase : base ≤ w.heap.size) :
    ∃ v' w', (Builtin.append_ #[t, t] ty #[v, .slice A ys.length c]).run P w = .ok v' w' ∧ Row E enc e w' base v' (xs ++ ys) ∧ w.grownBy w' v.ownBlock ∧ (v'.ownBlock = v.ownBlock ∨ v'.ownBlock = some w.heap.size) := by
  obtain ⟨i, z, hi, hz0, hz1, hz2, hz3⟩ := he.info
  have hlen : ∀ y ∈ ys, (enc y).length = E.size := fun y hy => Flat.len (hf.sl hS y hy)
  cases A with
  | none =>
    have hy : ys = [] := Classical.byContradiction fun hn => by
      obtain ⟨b, off, hA, _⟩ := hS.2.2 hn
      cases hA
    subst hy
    obtain ⟨A', c', rfl, hle, _⟩ := hR.shape
    refine ⟨_, w, run_append_nothing w t t ty e i he.under hi A' xs.length c' hle (.slice none 0 c) (Src.ofNil w he.under c), by rw [List.append_nil]; exact hR, World.grownBy.refl _ _, .inl rfl⟩
  | some ad =>
    obtain ⟨b, off, sp⟩ := ad
    by_cases hn : ys = []
    · subst hn
      obtain ⟨v', w', h1, h2, h3, h4, h5⟩ := run_append_own_at (P := P) w base t ty e i z E.size bytes he.under hi hz0 hz1 hz2 hz3 E.pos v xs.length (xs.flatMap enc) hR.1 ⟨b, off, sp⟩ 0 c [] (by simp) (fun j u h => by simp at h) (fun u h => by simp at h) h63 hbytes hbase
      exact ⟨v', w', h1, hR.all h2 (fun y hy => by simp at hy), h3, h5⟩
    · obtain ⟨b', off', hA, _⟩ := hS.2.2 hn
      simp only [Option.some.injEq, Addr.mk.injEq] at hA
      obtain ⟨rfl, rfl, rfl⟩ := hA
      obtain ⟨v', w', h1, h2, h3, h4, h5⟩ := run_append_own_at (P := P) w base t ty e i z E.size bytes he.under hi hz0 hz1 hz2 hz3 E.pos v xs.length (xs.flatMap enc) hR.1 ⟨b, off, none⟩ ys.length c (ys.flatMap enc) (flatMap_len enc E.size ys hlen) (hf.cells hS)
        (fun u hu => by obtain ⟨y, _, h⟩ := List.mem_flatMap.1 hu; exact hf.one y u h) h63 hbytes hbase
      exact ⟨v', w', h1, hR.all h2 (hf.sl hS), h3, h5⟩

theorem wpList_append_row {α : Type} {P : Program} {E : Enc α} {enc : α → List Value} (hf : Flat E enc) {t e : TypeId} {bytes : Nat} (he : Elem P E t e bytes) {ops : Array Oper} {rest : List Oper} {o : Oper} {a : Act} {Q : Exit → Act → World → Prop} {w : World} (hgd : o.guard = none) (s x : Operand)
    (ho : o.op = .call { callee := .builtin .append, args := #[s, x], argTypes := #[t, t] }) {base : Nat} {v : Value} {xs ys : List α} (hs : a.eval s = v) (hR : Row E enc e w base v xs)
    {S : Nat → Prop} {A : Option Addr} {c : Nat} (hx : a.eval x = .slice A ys.length c) (hS : Sl E w S A c ys) (h63 : xs.length + ys.length ≤ maxLen) (hbytes : (xs.length + ys.length) * bytes ≤ 140737488355328) (hbase : base ≤ w.heap.size)
    (h : ∀ v' w', Row E enc e w' base v' (xs ++ ys) → w.grownBy w' v.ownBlock → (v'.ownBlock = v.ownBlock ∨ v'.ownBlock = some w.heap.size) → wpList P ops Q rest (a.put o.dst v') w') :
    wpList P ops Q (o :: rest) a w := by
  refine wpList_plain hgd fun K hK => ?_
  obtain ⟨v', w', hr, h2, h3, h4⟩ := run_append_row hf he o.type hR hS h63 hbytes hbase
  unfold Oper.wp execOp
  simp only [ho, resolve, invoke, builtin, Sem.run_bind, Sem.run_pure, Result.andThen_ok, List.map_toArray, List.map_cons, List.map_nil, hs, hx, hr]
  exact hK _ _ (h v' w' h2 h3 h4)

theorem So.take {α : Type} {E : Enc α} {w : World} {S : Nat → Prop} {A : Option Addr} {c : Nat} {xs : List α} (h : So E w S A c xs) (k : Nat) : So E w S A c (xs.take k) :=
  ⟨by have := h.1; rw [List.length_take]; omega, h.2.1, fun hn => by
    obtain ⟨b, off, t, cur, T, hA, hb, hB, hT, hd, hc⟩ := h.2.2 (by rintro rfl; simp at hn)
    refine ⟨b, off, t, cur, T, hA, hb, hB, hT, hd, fun i x hx => hc i x ?_⟩
    rw [List.getElem?_take] at hx
    split at hx
    · exact hx
    · cases hx⟩

theorem Sl.take {α : Type} {E : Enc α} {w : World} {S : Nat → Prop} {A : Option Addr} {c : Nat} {xs : List α} (h : Sl E w S A c xs) (k : Nat) : Sl E w S A c (xs.take k) :=
  ⟨by have := h.1; rw [List.length_take]; omega, h.2.1, fun hn => by
    obtain ⟨b, off, hA, hb, hc⟩ := h.2.2 (by rintro rfl; simp at hn)
    refine ⟨b, off, hA, hb, fun i x hx => hc i x ?_⟩
    rw [List.getElem?_take] at hx
    split at hx
    · exact hx
    · cases hx⟩

def evp (L : List (Nat × Value)) : List (Nat × Operand) → Option (List (Nat × Value))
  | [] => some []
  | (i, x) :: xs => match ev L x, evp L xs with
    | some v, some vs => some ((i, v) :: vs)
    | _, _ => none

theorem evp_map {n : Nat} {L : List (Nat × Value)} {a : Act} (hE : Env n L a) : ∀ (xs : List (Nat × Operand)) (vs : List (Nat × Value)), evp L xs = some vs → (xs.map fun p => (p.1, a.eval p.2)) = vs
  | [], vs, h => by simp [evp] at h; subst h; rfl
  | (i, x) :: xs, vs, h => by
    simp only [evp] at h
    cases h1 : ev L x with
    | none => simp [h1] at h
    | some v =>
      cases h2 : evp L xs with
      | none => simp [h1, h2] at h
      | some us =>
        simp [h1, h2] at h
        subst h
        rw [List.map_cons, hE.ev h1, evp_map hE xs us h2]

def setP (cs : List Value) : List (Nat × Value) → List Value
  | [] => cs
  | p :: r => setP (cs.set p.1 p.2) r

theorem one_cells {v : Value} (h : v.oneCell' = true) : v.cells = #[v] := by cases v <;> first | rfl | (simp [Value.oneCell'] at h)

theorem fill_one {pl : Array (Nat × Nat)} {m : Nat} (hp : ∀ i, i < m → pl[i]? = some (i, 1)) : ∀ (vs : List (Nat × Value)) (cs : List Value), cs.length = m → (∀ p ∈ vs, p.1 < m ∧ p.2.oneCell' = true) → Instr.fill (fun i => pl[i]?) cs.toArray vs = some (setP cs vs).toArray
  | [], cs, _, _ => rfl
  | p :: r, cs, hl, h => by
    obtain ⟨i, v⟩ := p
    have hi := h (i, v) (by simp)
    have ih := fill_one hp r (cs.set i v) (by simpa using hl) (fun q hq => h q (by simp [hq]))
    have h2 : i + 1 ≤ cs.length := by have := hi.1; omega
    have h3 : ¬ (cs.toArray.size < i + 1) := by simp; omega
    simp only [Instr.fill, hp i hi.1, one_cells hi.2]
    simp [setP, ← ih, h3, h2]
    intro h4; omega

/-- What is known of a struct type whose fields take a cell each. -/
structure TB (P : Program) (t : TypeId) (zs : List Value) : Prop where
  tv : TV P t true zs
  under : ∃ fs pl, P.underlying t = some (.struct fs) ∧ (∀ w, (fs.mapM fun (f : Field) => (do pure (f.offset, ← sizeOf f.type) : Sem (Nat × Nat))).run P w = .ok pl w) ∧ ∀ i, i < zs.length → pl[i]? = some (i, 1)

theorem x_build {P : Program} {S : World → Prop} {L : List (Nat × Value)} {d : Option Tmp} {t : TypeId} {ps : List (Nat × Operand)} {vs : List (Nat × Value)} {zs : List Value} {ty : TypeId} {pos : String} {af : Array Edge} {g : Option (Nat × Bool)} (ht : TB P t zs) (he : evp L ps = some vs) (hv : ∀ p ∈ vs, p.1 < zs.length ∧ p.2.oneCell' = true) : XS P S L ⟨d, .build t ps.toArray, ty, pos, af, g⟩ (.agg (setP zs vs).toArray) := fun _ a w hE _ => by
  obtain ⟨fs, pl, h1, h2, h3⟩ := ht.under
  obtain ⟨i, z, e1, e2, e3, e4⟩ := ht.tv.info
  have hf := fill_one h3 vs zs rfl hv
  have hm := evp_map hE ps vs he
  have hz : (zeroValue t).run P w = .ok z w := by simp [zeroValue, typeInfo, e1, e2]
  simp only [execOp, Instr.build, List.map_toArray, hm, Sem.run_bind, hz, Result.andThen_ok, run_underlying h1, h2 w, e4]
  simp [hf]

theorem foldl_setAll (off : Nat) : ∀ (vs : List Value) (k : Nat) (cs : Array Value), (vs.zipIdx k).foldl (fun cs (p : Value × Nat) => cs.setIfInBounds (off + p.2) p.1) cs = setAll cs (off + k) vs
  | [], _, _ => rfl
  | v :: vs, k, cs => by
    rw [List.zipIdx_cons, List.foldl_cons, foldl_setAll off vs (k + 1)]
    rfl

theorem setAll_split (pre mid post vs : List Value) (h : mid.length = vs.length) : setAll (pre ++ mid ++ post).toArray pre.length vs = (pre ++ vs ++ post).toArray := by
  apply Array.ext_getElem?
  intro i
  rw [get_setAll _ _ _ _ (by simp; omega)]
  by_cases h1 : pre.length ≤ i ∧ i < pre.length + vs.length
  · rw [if_pos h1]
    simp only [List.getElem?_toArray]
    rw [List.append_assoc, List.getElem?_append_right h1.1, List.getElem?_append_left (by omega)]
  · rw [if_neg h1]
    simp only [List.getElem?_toArray, List.append_assoc]
    by_cases h2 : i < pre.length
    · rw [List.getElem?_append_left h2, List.getElem?_append_left h2]
    · rw [List.getElem?_append_right (by omega), List.getElem?_append_right (by omega), List.getElem?_append_right (by omega), List.getElem?_append_right (by omega), h]

def numb (j : Nat) : List Value → List (Nat × Value)
  | [] => []
  | v :: vs => (j, v) :: numb (j + 1) vs

theorem fill_all (sz : Nat) : ∀ (vs : List Value) (j : Nat) (pre post : List Value), pre.length = j * sz → post.length = vs.length * sz → (∀ v ∈ vs, v.cells.size = sz) → Instr.fill (fun i => some (i * sz, sz)) (pre ++ post).toArray (numb j vs) = some (pre ++ (vs.map fun v => v.cells.toList).flatten).toArray
  | [], j, pre, post, _, h2, _ => by
    have : post = [] := List.eq_nil_of_length_eq_zero (by simpa using h2)
    subst this; simp [numb, Instr.fill]
  | v :: vs, j, pre, post, h1, h2, h3 => by
    have hv := h3 v (by simp)
    rw [List.length_cons, Nat.succ_mul] at h2
    have hsp : post = post.take sz ++ post.drop sz := (List.take_append_drop sz post).symm
    have hl : (post.take sz).length = v.cells.toList.length := by rw [List.length_take]; simp [hv]; omega
    have hset := setAll_split pre (post.take sz) (post.drop sz) v.cells.toList hl
    have ih := fill_all sz vs (j + 1) (pre ++ v.cells.toList) (post.drop sz) (by simp [h1, hv, Nat.succ_mul]) (by rw [List.length_drop]; omega) (fun u hu => h3 u (by simp [hu]))
    have hfold : v.cells.zipIdx.foldl (fun cs (p : Value × Nat) => cs.setIfInBounds (j * sz + p.2) p.1) (pre ++ post).toArray = (pre ++ v.cells.toList ++ post.drop sz).toArray := by
      rw [← Array.foldl_toList, Array.toList_zipIdx, foldl_setAll, Nat.add_zero, ← h1, ← hset, List.append_assoc, ← hsp]
    have hle : ¬ ((pre ++ post).toArray.size < j * sz + sz) := by simp; omega
    have hc : (v.cells.size ≠ sz || decide (j * sz + v.cells.size > (pre ++ post).toArray.size)) = false := by
      rw [hv]; simp; omega
    simp only [numb, Instr.fill]
    rw [if_neg (by rw [hc]; simp)]
    rw [show (v.cells.zipIdx.foldl (fun cs x => match x with | (c, j_1) => cs.setIfInBounds (j * sz + j_1) c) (pre ++ post).toArray) = (pre ++ v.cells.toList ++ post.drop sz).toArray from hfold, ih]
    simp

/-- A slice literal, all of its elements given. -/
theorem run_lit {P : Program} {n m : Nat} {a : Act} {L : List (Nat × Value)} {w : World} {t e : TypeId} {sz by_ : Nat} {ps : List (Nat × Operand)} {vs : List Value} {cs : List Value} {d : Option Tmp} {ty : TypeId} {pos : String} {af : Array Edge} {g : Option (Nat × Bool)} (hT : TSl P t e sz by_) (hE : Env n L a) (he : evp L ps = some (numb 0 vs)) (hm : vs.length = m) (hv : ∀ v ∈ vs, v.cells.size = sz) (hcs : (vs.map fun v => v.cells.toList).flatten = cs) (hb : m * sz ≤ 16777216) :
    (execOp a.eval ⟨d, .buildSlice t m ps.toArray, ty, pos, af, g⟩).run P w = .ok (.value (.slice (some ⟨w.heap.size, 0, none⟩) m m)) (w.alloc (.cells cs.toArray e)) := by
  obtain ⟨i, z, e1, e2, e3, e4, e5⟩ := hT.info
  subst hm hcs
  have hE' := evp_map hE ps _ he
  have hb' : ¬ (vs.length * i.size > 2 ^ 24) := by rw [e3]; omega
  have key : ∀ zero : Array Value, Instr.fill (fun i_1 => some (i_1 * i.size, i.size)) ((Array.range (vs.length * i.size)).map (zero[· % zero.size]!)) (numb 0 vs) = some (vs.map fun v => v.cells.toList).flatten.toArray := by
    intro zero
    have := fill_all sz vs 0 [] ((Array.range (vs.length * i.size)).map (zero[· % zero.size]!)).toList (by simp) (by simp [e3]) hv
    simp only [List.nil_append, Array.toArray_toList] at this
    rw [e3] at this ⊢; exact this
  simp only [execOp, Instr.buildSlice, List.map_toArray, hE', Sem.run_bind, run_underlying hT.under, Result.andThen_ok, sizeOf, typeInfo, run_program, e1, Sem.run_pure, hb', if_false]
  by_cases h0 : vs.length * i.size = 0
  · simp [h0, newRow] at key ⊢
    have := key #[]
    simp at this
    simp [this]
  · simp [h0, zeroValue, typeInfo, e1, e2, newRow, key]

theorem lkI {t : Nat} {L : List (Nat × Value)} {q : IntKind} {x y : Int} (h : lk t L = some (.int q x)) (e : x = y) : lk t L = some (.int q y) := e ▸ h

theorem Held.to {M : Nat → Prop} {w0 : World} {rs rs' : List Res} {w : World} (h : Held M w0 rs w) (e : rs = rs') : Held M w0 rs' w := e ▸ h

theorem Held.flatO {M : Nat → Prop} {w0 : World} {rs : List Res} {w : World} (h : Held M w0 rs w) {α : Type} {E : Enc α} {cs : List Value} {x : α} (ho : ∀ W, E.O W Nob cs x) : Held M w0 (rO E Nob cs x :: rs) w := h.new (Below.refl _ _) (rO E Nob cs x) (ho w) fun _ h => h.elim

theorem oPrN {α β : Type} {E : Enc α} {F : Enc β} {w : World} {c1 c2 : List Value} {x : α} {y : β} (h1 : E.O w Nob c1 x) (h2 : F.O w Nob c2 y) : (ePr E F).O w Nob (c1 ++ c2) (x, y) := ⟨c1, c2, Nob, Nob, rfl, fun b hb => hb.elim, fun b hb => hb, h1, h2⟩

theorem c_ownI {M : Nat → Prop} {w0 : World} {rs : List Res} {S : Nat → Prop} {b off c k : Nat} {xs : List Int} (i : Nat) (hi : rs[i]? = some (rSo eInt S (some ⟨b, off, none⟩) c xs)) (hk : k < xs.length) : ∀ w, Held M w0 rs w → w.cell? ⟨b, off + k * 1, none⟩ = some (.int .i64 xs[k]) := fun w h => by
  obtain ⟨b', off', es, hA, _, hR, hc⟩ := (h.sl hi).at1 rfl hk
  simp only [Option.some.injEq, Addr.mk.injEq, and_true] at hA
  obtain ⟨rfl, rfl⟩ := hA
  obtain ⟨rfl, _⟩ := hR
  rw [Nat.mul_one]; exact hc _ rfl

theorem i_ownI {M : Nat → Prop} {w0 w : World} {rs : List Res} {S : Nat → Prop} {A : Option Addr} {c k : Nat} {xs : List Int} (h : Held M w0 rs w) (i : Nat) (hi : rs[i]? = some (rSo eInt S A c xs)) (hk : k < xs.length) : I64 xs[k] := by
  obtain ⟨b', off', es, hA, _, hR, hc⟩ := (h.sl hi).at1 rfl hk
  exact hR.2

/-- A literal slice reads as the list of what its elements read as. -/
theorem Held.slLit {M : Nat → Prop} {w0 w : World} {rs : List Res} {α : Type} {E : Enc α} {g : Nat} {t : TypeId} {css : List (List Value)} {xs : List α} (h : Held M w0 rs w) {i : Nat} (hi : rs[i]? = some (rBlk g t css.flatten)) (hl : css.length = xs.length) (hm : xs.length ≤ maxLen) (hR : ∀ (j : Nat) (x : α), xs[j]? = some x → ∃ es, css[j]? = some es ∧ E.R w (Old w) es x) : Sl E w (Old w) (some ⟨g, 0, none⟩) xs.length xs := by
  have hB : Blk w g t css.flatten.toArray := h.get hi
  refine ⟨Nat.le_refl _, hm, fun _ => ⟨g, 0, rfl, Blk.lt hB, fun j x hx => ?_⟩⟩
  obtain ⟨es, h1, h2⟩ := hR j x hx
  refine ⟨es, h2, fun q v hv => ?_⟩
  have hsz : ∀ es ∈ css, es.length = E.size := fun es hes => by
    obtain ⟨m, hm', rfl⟩ := List.getElem_of_mem hes
    obtain ⟨es', h3, h4⟩ := hR m xs[m] (List.getElem?_eq_getElem (by omega))
    rw [List.getElem?_eq_getElem hm'] at h3
    simp at h3; rw [h3]; exact E.len h4
  have hq : q < E.size := by
    have := (List.getElem?_eq_some_iff.1 hv).1
    rw [hsz es (List.mem_of_getElem? h1)] at this; exact this
  have := flatten_at E.size css hsz j es h1 q hq
  rw [Nat.zero_add, hB.cell, List.getElem?_toArray, this]; exact hv

theorem So.setB {w : World} {S : Nat → Prop} {b off c : Nat} {xs : List Bool} (h : So eBool w S (some ⟨b, off, none⟩) c xs) {k : Nat} (hk : k < xs.length) (y : Bool) : So eBool (w.setCell ⟨b, off + k, none⟩ (.bool y)) S (some ⟨b, off, none⟩) c (xs.set k y) := by
  obtain ⟨b', off', t, cur, T, es, hA, hb, hB, hT, hO, hcells, hre⟩ := h.at hk
  simp only [Option.some.injEq, Addr.mk.injEq, and_true] at hA
  obtain ⟨rfl, rfl⟩ := hA
  refine hre _ [.bool y] y rfl ?_ (fun m hm hne _ => Below.heap_setCell _ _ _ _ hne)
  rw [show off + k * eBool.size = off + k from by show off + k * 1 = _; omega]
  exact hB.set _ _

theorem So.getB {w : World} {S : Nat → Prop} {A : Option Addr} {c : Nat} {xs : List Bool} (h : So eBool w S A c xs) {k : Nat} (hk : k < xs.length) : ∃ b off, A = some ⟨b, off, none⟩ ∧ S b ∧ w.cell? ⟨b, off + k, none⟩ = some (.bool xs[k]) ∧ w.frozen? ⟨b, off + k, none⟩ = false := by
  obtain ⟨b, off, t, cur, T, es, rfl, hb, hB, hT, hO, hcells, _⟩ := h.at hk
  obtain rfl := hO
  refine ⟨b, off, rfl, hb, ?_, hB.frozen _⟩
  have := hcells 0 _ rfl
  rw [show off + k * eBool.size + 0 = off + k from by show off + k * 1 + 0 = _; omega] at this
  rw [hB.cell]; exact this

/-- A store into an owned slice of truth values. -/
theorem st_storeB {P : Program} {ops : Array Oper} {Q : Exit → Act → World → Prop} {a : Act} {w : World} {K : Act → World → Prop} {n : Nat} {L : List (Nat × Value)} {M : Nat → Prop} {w0 : World} {rs : List Res} {t : TypeId} {z0 : Value} {x y : Operand} {S : Nat → Prop} {b off c k : Nat} {xs : List Bool} {m : Bool} {ty : TypeId} {pos : String} {af : Array Edge} {gd : Option (Nat × Bool)} (i : Nat) (hE : Env n L a) (hH : Held M w0 rs w) (ht : TV P t false [z0]) (hx : ev L x = some (.pointer (some ⟨b, off + k * 1, none⟩))) (hy : ev L y = some (.bool m)) (hi : rs[i]? = some (rSo eBool S (some ⟨b, off, none⟩) c xs)) (hk : k < xs.length) (hw : Region.wanted ⟨none, .store t x y, ty, pos, af, gd⟩ (yielded ops a.tmps) = true)
    (kk : ∀ w', Held M w0 (rs.set i (rSo eBool S (some ⟨b, off, none⟩) c (xs.set k m))) w' → K a w') : Stp P ops Q ⟨none, .store t x y, ty, pos, af, gd⟩ a w K := by
  have hso := so_of_o (hH.get hi)
  obtain ⟨b', off', hA, hb, hc, hf⟩ := hso.getB hk
  simp only [Option.some.injEq, Addr.mk.injEq, and_true] at hA
  obtain ⟨rfl, rfl⟩ := hA
  have h2 := hso.setB hk m
  have hlen : (xs.set k m).length = xs.length := List.length_set
  have h3 : Held M w0 (rs.set i (rSo eBool S (some ⟨b, off, none⟩) c (xs.set k m))) (w.setCell ⟨b, off + k, none⟩ (.bool m)) := hH.mut hi ((Chg.refl _ _).set (by exact hb) _) (rSo eBool S (some ⟨b, off, none⟩) c (xs.set k m)) (oSl h2) fun b hb => .inl hb
  refine st_skip hw ?_ rfl (kk _ h3)
  obtain ⟨ii, z, e1, _, e3, _⟩ := ht.info
  rw [Nat.mul_one] at hx
  simp only [execOp, hE.ev hx, hE.ev hy, Instr.storeAt, Instr.sureAddr, storeVar, sizeOf, typeInfo, Sem.run_bind, Sem.run_pure, Result.andThen_ok, run_program, e1]
  have e3' : ii.size = 1 := e3
  have hs : (Go.store ⟨b, off + k, none⟩ (.bool m)).run P w = .ok () (w.setCell ⟨b, off + k, none⟩ (.bool m)) := by simp [Go.store, Sem.run, hc, hf]
  simp [Value.cells, e3', storeCells, add_none, hs]

/-- A whole slice of flat elements is appended. -/
theorem st_appS {P : Program} {ops : Array Oper} {Q : Exit → Act → World → Prop} {a : Act} {w : World} {K : Act → World → Prop} {n d : Nat} {L : List (Nat × Value)} {M : Nat → Prop} {w0 : World} {rs rs' : List Res} {α : Type} {E : Enc α} {enc : α → List Value} {t e : TypeId} {bytes : Nat} {S : Nat → Prop} {A B : Option Addr} {c c2 : Nat} {xs ys : List α} {x1 x2 : Operand} {ty : TypeId} {pos : String} {af : Array Edge} {gd : Option (Nat × Bool)} (hf : Flat E enc) (hE : Env n L a) (hH : Held M w0 rs w) (he : TSl P t e E.size bytes) (is : List Nat) (hn1 : is.Nodup) (his : pick rs is = some (rVec E e S A c xs :: rs'))
    (hx1 : ev L x1 = some (.slice A xs.length c)) (hx2 : ev L x2 = some (.slice B ys.length c2)) (hS : Sl E w (Old w) B c2 ys) (h63 : xs.length + ys.length ≤ maxLen) (hbytes : (xs.length + ys.length) * bytes ≤ 140737488355328) (hw : Region.wanted ⟨some d, .call { callee := .builtin .append, args := #[x1, x2], argTypes := #[t, t] }, ty, pos, af, gd⟩ (yielded ops a.tmps) = true) (hn : Nat.blt d n = true)
    (k : ∀ A' c' S' a' w', Env n ((d, .slice A' (xs ++ ys).length c') :: L) a' → Held M w0 (rVec E e S' A' c' (xs ++ ys) :: rs') w' → K a' w') : Stp P ops Q ⟨some d, .call { callee := .builtin .append, args := #[x1, x2], argTypes := #[t, t] }, ty, pos, af, gd⟩ a w K := by
  have h := hH.sel is hn1 his
  by_cases hy : ys = []
  · subst hy
    obtain ⟨i, z, hi, hz0, hz1, hz2, hz3⟩ := he.info
    obtain ⟨css, T, k1, k2, k3⟩ := h.ok _ (List.mem_cons_self)
    have hcap : xs.length ≤ c := by
      rcases k2.2 with ⟨q, _⟩ | ⟨g, cap, cur, q, _, _, hle, _⟩
      · simp only [Value.slice.injEq] at q; omega
      · simp only [Value.slice.injEq] at q; omega
    have hr : (Builtin.append_ #[t, t] ty #[.slice A xs.length c, .slice B 0 c2]).run P w = .ok (.slice A xs.length c) w := by
      cases A with
      | none => cases B <;> simp [Builtin.append_, run_underlying he.under, sizeOf, typeInfo, hi, Builtin.lenOf, Builtin.firstCells, loadCells, loadCellsFrom, hcap]
      | some ad => cases B <;> simp [Builtin.append_, run_underlying he.under, sizeOf, typeInfo, hi, Builtin.lenOf, Builtin.firstCells, loadCells, loadCellsFrom, hcap, storeCells]
    rw [List.append_nil] at k
    refine st_val hE hw ?_ rfl hn fun a' hE' => k A c S a' w hE' h
    simp only [List.length_nil] at hx2
    simp only [execOp, resolve, invoke, builtin, Sem.run_bind, Sem.run_pure, Result.andThen_ok, List.map_toArray, List.map_cons, List.map_nil, hE.ev hx1, hE.ev hx2, hr]
  · obtain ⟨b, off, rfl, _⟩ := hS.2.2 hy
    obtain ⟨A', c', S', w', e1, e2, e3, e4⟩ := run_append_vec (U := Nob) he ty h ⟨b, off, none⟩ ys c2 (ys.map enc) (by simp) (fun j u hu => hf.cells hS j u (by rw [List.flatMap_def]; exact hu)) (fun es hes u hu => by
        obtain ⟨y, _, rfl⟩ := List.mem_map.1 hes
        exact hf.one y u hu)
      (fun _ _ => False) (fun i b hb => hb.elim) (fun i j b hi hj => hi.elim) (fun i z hz => ⟨enc z, by rw [List.getElem?_map, hz]; rfl, hf.sl hS z (List.mem_of_getElem? hz) w⟩) (fun b hb => hb.elim) h63 hbytes
    have h1 : Held M w0 (rVec E e S A c xs :: ⟨Nob, fun _ => True, fun _ _ _ _ => trivial⟩ :: rs') w := by
      refine ⟨h.chg, ?_, ?_, ?_⟩
      · intro r hr
        simp only [List.mem_cons] at hr
        rcases hr with rfl | rfl | hr
        · exact h.ok _ (by simp)
        · trivial
        · exact h.ok _ (by simp [hr])
      · intro r hr
        simp only [List.mem_cons] at hr
        rcases hr with rfl | rfl | hr
        · exact h.rng _ (by simp)
        · exact fun b hb => hb.elim
        · exact h.rng _ (by simp [hr])
      · have h5 := List.pairwise_cons.1 h.sep
        refine List.pairwise_cons.2 ⟨fun s hs b hb => ?_, List.pairwise_cons.2 ⟨fun s hs b hb => hb.elim, h5.2⟩⟩
        rcases List.mem_cons.1 hs with rfl | hs
        · exact fun h => h.elim
        · exact h5.1 s hs b hb
    have h2 : Held M w0 (rVec E e S' A' c' (xs ++ ys) :: rs') w' := h1.mut2 e3 (rVec E e S' A' c' (xs ++ ys)) e2 (fun b hb => by
      rcases e4 b hb with q | q | q
      · exact .inl q
      · exact q.elim
      · exact .inr (.inr q))
    refine st_val hE hw ?_ rfl hn fun a' hE' => k A' c' S' a' w' hE' h2
    simp only [execOp, resolve, invoke, builtin, Sem.run_bind, Sem.run_pure, Result.andThen_ok, List.map_toArray, List.map_cons, List.map_nil, hE.ev hx1, hE.ev hx2, e1]

theorem tv_parts {P : Program} {t : TypeId} {z : Value} {n : Nat} (h : (P.info? t).map (fun i => (i.zero, i.size)) = some (some z, n)) : ∃ i, P.info? t = some i ∧ i.zero = some z ∧ i.size = n := by
  cases hi : P.info? t with
  | none => rw [hi] at h; cases h
  | some i =>
    rw [hi] at h
    simp only [Option.map_some, Option.some.injEq, Prod.mk.injEq] at h
    exact ⟨i, rfl, h.1, h.2⟩

theorem ts_parts {P : Program} {t : TypeId} {z : Value} {n b : Nat} (h : (P.info? t).map (fun i => (i.zero, i.size, i.bytes)) = some (some z, n, b)) : ∃ i, P.info? t = some i ∧ i.zero = some z ∧ i.size = n ∧ i.bytes = b := by
  cases hi : P.info? t with
  | none => rw [hi] at h; cases h
  | some i =>
    rw [hi] at h
    simp only [Option.map_some, Option.some.injEq, Prod.mk.injEq] at h
    exact ⟨i, rfl, h.1, h.2.1, h.2.2⟩

theorem so_rep {α : Type} {E : Enc α} {w : World} {g : Nat} {t : TypeId} {n : Nat} {v : Value} {x : α} (h1 : E.size = 1) (hO : ∀ W, E.O W Nob [v] x) (hB : Blk w g t (List.replicate n v).toArray) (hm : n ≤ maxLen) : So E w (fun b => b = g) (some ⟨g, 0, none⟩) n (List.replicate n x) :=
  ⟨by simp, hm, fun _ => ⟨g, 0, t, _, fun _ _ => False, rfl, rfl, hB, fun _ _ h => h.elim, fun _ _ _ h => h.elim, fun i y hy => by
    have hi := (List.getElem?_eq_some_iff.1 hy).1
    rw [List.length_replicate] at hi
    rw [List.getElem?_replicate_of_lt hi] at hy
    simp at hy; subst hy
    refine ⟨[v], E.omore (hO w) fun _ h => h.elim, fun j u hu => ?_⟩
    rcases j with _ | j
    · simp at hu; subst hu
      rw [h1]; simp [hi]
    · simp at hu⟩⟩

/-- make, of flat elements of one cell. -/
theorem st_make {P : Program} {ops : Array Oper} {Q : Exit → Act → World → Prop} {a : Act} {w : World} {K : Act → World → Prop} {n d : Nat} {L : List (Nat × Value)} {M : Nat → Prop} {w0 : World} {rs : List Res} {α : Type} {E : Enc α} {t e : TypeId} {by_ : Nat} {v : Value} {x : α} {y1 y2 : Operand} {k : Nat} {m m2 : Int} {ty : TypeId} {pos : String} {af : Array Edge} {gd : Option (Nat × Bool)} (hE : Env n L a) (hH : Held M w0 rs w) (ht : TSl P t e 1 by_) (hv : TV P e false [v]) (h1 : E.size = 1) (hO : ∀ W, E.O W Nob [v] x) (hy1 : ev L y1 = some (.int .i64 m)) (hy2 : ev L y2 = some (.int .i64 m2)) (hm : m = (k : Int)) (hm2 : m2 = (k : Int)) (hk : k * by_ ≤ 140737488355328) (hk1 : k ≤ 1000000000000) (hw : Region.wanted ⟨some d, .makeSlice t y1 y2, ty, pos, af, gd⟩ (yielded ops a.tmps) = true) (hn : Nat.blt d n = true)
    (kk : ∀ q a' w', Env n ((d, .slice (some ⟨q, 0, none⟩) (List.replicate k x).length k) :: L) a' → Held M w0 (rSo E (fun b => b = q) (some ⟨q, 0, none⟩) k (List.replicate k x) :: rs) w' → K a' w') : Stp P ops Q ⟨some d, .makeSlice t y1 y2, ty, pos, af, gd⟩ a w K := by
  obtain ⟨i, z, e1, e2, e3, e4, e5⟩ := ht.info
  obtain ⟨i', z', f1, f2, f3, f4⟩ := hv.info
  have hii : i' = i := by rw [e1] at f1; exact (Option.some.inj f1).symm
  subst hii
  have hzz : z' = z := by rw [e2] at f2; exact (Option.some.inj f2).symm
  subst hzz
  subst hm hm2
  have hmade : madeCells #[v] k = (List.replicate k v).toArray := by
    apply Array.ext
    · simp [madeCells]
    · intro j h1 h2
      have : j % 1 = 0 := Nat.mod_one j
      simp [madeCells, this]
  have hb1 : (i'.bytes : Int) * (k : Int) ≤ 281474976710656 := by
    have h : ((i'.bytes * k : Nat) : Int) ≤ 281474976710656 := by rw [e4, Nat.mul_comm]; omega
    rwa [Int.natCast_mul] at h
  have hr := run_make (P := P) w t e i' z' ht.under e1 e2 .i64 .i64 k k (by omega) (Int.le_refl _) hb1 (by omega)
  simp only [Int.toNat_natCast, e3, Nat.mul_one, f4] at hr
  have hrun : (execOp a.eval ⟨some d, .makeSlice t y1 y2, ty, pos, af, gd⟩).run P w = .ok (.value (.slice (some ⟨w.heap.size, 0, none⟩) k k)) (w.alloc (.cells (List.replicate k v).toArray e)) := by
    rw [← hmade]
    simp only [execOp, hE.ev hy1, hE.ev hy2, Sem.run_bind]
    rw [show ([v].toArray) = #[v] from rfl] at hr
    rw [hr]; rfl
  refine st_val hE hw hrun rfl hn fun a' hE' => ?_
  have hB := hH.alloc e (List.replicate k v)
  refine kk w.heap.size a' _ (by rw [List.length_replicate]; exact hE') ?_
  refine hB.turn _ (fun hb => ?_) fun _ hb => hb
  exact oSl (so_rep h1 hO hb (by unfold maxLen; omega))

theorem Env.castI {n t : Nat} {L : List (Nat × Value)} {a : Act} {q : IntKind} {x y : Int} (h : Env n L a) (hl : lk t L = some (.int q x)) (e : x = y) : Env n ((t, .int q y) :: L) a :=
  h.sub' fun s v hv => by
    simp only [lk] at hv
    by_cases hs : Nat.beq s t = true
    · rw [hs] at hv
      have hs' := Nat.eq_of_beq_eq_true hs
      subst hs' e
      simp at hv
      rw [hl, hv]
    · have hs' : Nat.beq s t = false := Bool.eq_false_iff.2 hs
      rw [hs'] at hv; exact hv

/-- A captured variable's cell, as a closure sees it. -/
theorem Held.capB {M : Nat → Prop} {w0 : World} {rs : List Res} {w W : World} {g : Nat} {t : TypeId} {cs : List Value} (h : Held M w0 rs w) (i : Nat) (hi : rs[i]? = some (rBlk g t cs)) (hb : Below w.heap.size w W) : ∀ j v, cs[j]? = some v → W.cell? ⟨g, 0 + j, none⟩ = some v := fun j v hv => by
  have hlt := (h.rng _ (List.mem_of_getElem? hi) g rfl).2
  rw [hb.cell (p := ⟨g, 0 + j, none⟩) hlt]
  exact c_blkN i hi w h j v hv

theorem Env.castS {n t m m' c : Nat} {A : Option Addr} {L : List (Nat × Value)} {a : Act} (h : Env n L a) (hl : lk t L = some (.slice A m c)) (e : m = m') : Env n ((t, .slice A m' c) :: L) a :=
  h.sub' fun s v hv => by
    simp only [lk] at hv
    by_cases hs : Nat.beq s t = true
    · rw [hs] at hv
      have hs' := Nat.eq_of_beq_eq_true hs
      subst hs' e
      simp at hv
      rw [hl, hv]
    · have hs' : Nat.beq s t = false := Bool.eq_false_iff.2 hs
      rw [hs'] at hv; exact hv

/-- What was there, outside M. -/
def Out (M : Nat → Prop) (w : World) (b : Nat) : Prop := b < w.heap.size ∧ ¬ M b

/-- The blocks of some parts. -/
def Foot (xs : List Res) (b : Nat) : Prop := ∃ r ∈ xs, r.S b

theorem Held.startM {w : World} {α : Type} {E : Enc α} {S : Nat → Prop} {cs : List Value} {x : α} (ho : E.O w S cs x) (hS : ∀ b, S b → b < w.heap.size) : Held S w [rO E S cs x] w :=
  ⟨Chg.refl _ _, (fun r hr => by simp at hr; subst hr; exact ho), (fun r hr b hb => by simp at hr; subst hr; exact ⟨.inl hb, hS b hb⟩), by simp⟩

theorem Held.focus {M0 : Nat → Prop} {w0 : World} {xs rs : List Res} {w : World} (h : Held M0 w0 (xs ++ rs) w) : Held (Foot xs) w xs w :=
  ⟨Chg.refl _ _, fun r hr => h.ok r (by simp [hr]), fun r hr b hb => ⟨.inl ⟨r, hr, hb⟩, (h.rng r (by simp [hr]) b hb).2⟩, (List.pairwise_append.1 h.sep).1⟩

theorem Held.back {M0 : Nat → Prop} {w0 : World} {xs ys rs : List Res} {w w' : World} (h : Held M0 w0 (xs ++ rs) w) (h' : Held (Foot xs) w ys w') : Held M0 w0 (ys ++ rs) w' where
  chg := by
    refine ⟨h'.chg.os.trans h.chg.os, h'.chg.tape.trans h.chg.tape, h'.chg.output.trans h.chg.output, Nat.le_trans h.chg.size h'.chg.size, fun k hk hM => ?_⟩
    refine (h'.chg.block k (Nat.lt_of_lt_of_le hk h.chg.size) ?_).trans (h.chg.block k hk hM)
    rintro ⟨r, hr, hb⟩
    rcases (h.rng r (by simp [hr]) k hb).1 with q | q
    · exact hM q
    · omega
  ok := by
    intro r hr
    rcases List.mem_append.1 hr with hr | hr
    · exact h'.ok r hr
    · refine r.loc w w' (fun b hb => h'.chg.block b (h.rng r (by simp [hr]) b hb).2 ?_) (h.ok r (by simp [hr]))
      rintro ⟨s, hs, hb'⟩
      exact (List.pairwise_append.1 h.sep).2.2 s hs r hr b hb' hb
  rng := by
    intro r hr b hb
    rcases List.mem_append.1 hr with hr | hr
    · obtain ⟨h1, h2⟩ := h'.rng r hr b hb
      refine ⟨?_, h2⟩
      rcases h1 with ⟨s, hs, hb'⟩ | h1
      · exact (h.rng s (by simp [hs]) b hb').1
      · exact .inr (Nat.le_trans h.size h1)
    · have h1 := h.rng r (by simp [hr]) b hb
      exact ⟨h1.1, Nat.lt_of_lt_of_le h1.2 h'.chg.size⟩
  sep := by
    refine List.pairwise_append.2 ⟨h'.sep, (List.pairwise_append.1 h.sep).2.1, fun r hr s hs b hb hb' => ?_⟩
    rcases (h'.rng r hr b hb).1 with ⟨q, hq, hb2⟩ | h1
    · exact (List.pairwise_append.1 h.sep).2.2 q hq s hs b hb2 hb'
    · have := (h.rng s (by simp [hs]) b hb').2; omega

theorem Held.oldM {M : Nat → Prop} {w0 : World} {rs : List Res} {w : World} {α : Type} {E : Enc α} {A : Option Addr} {c : Nat} {xs : List α} (h : Held M w0 rs w) (hs : Sl E w0 (Out M w0) A c xs) : Sl E w (Old w) A c xs :=
  (hs.keep (fun p hp => World.cell?_of_block (w := w0) (h.chg.block p.block hp.1 hp.2))).more fun b hb => Nat.lt_of_lt_of_le hb.1 h.chg.size

theorem Held.oldRM {M : Nat → Prop} {w0 : World} {rs : List Res} {w : World} {α : Type} {E : Enc α} {cs : List Value} {x : α} (h : Held M w0 rs w) (hs : E.R w0 (Out M w0) cs x) : E.R w (Old w) cs x :=
  E.more (E.keep hs (fun p hp => World.cell?_of_block (w := w0) (h.chg.block p.block hp.1 hp.2))) fun b hb => Nat.lt_of_lt_of_le hb.1 h.chg.size

/-- A borrowed slice, as a callee that rewrites xs sees it. -/
theorem Held.lend {w0 : World} {xs rs : List Res} {w : World} {α : Type} {E : Enc α} {A : Option Addr} {c : Nat} {zs : List α} (h : Held Nob w0 (xs ++ rs) w) (hs : Sl E w0 (Old w0) A c zs) : Sl E w (Out (Foot xs) w) A c zs :=
  (hs.keep (fun p hp => h.cell0 hp fun h => h)).more fun b hb => ⟨Nat.lt_of_lt_of_le hb h.size, by
    rintro ⟨r, hr, hb'⟩
    rcases (h.rng r (by simp [hr]) b hb').1 with q | q
    · exact q.elim
    · have : b < w0.heap.size := hb
      omega⟩

theorem Held.lendM {M : Nat → Prop} {w0 : World} {xs rs : List Res} {w : World} {α : Type} {E : Enc α} {A : Option Addr} {c : Nat} {zs : List α} (h : Held M w0 (xs ++ rs) w) (hs : Sl E w0 (Out M w0) A c zs) : Sl E w (Out (Foot xs) w) A c zs :=
  (hs.keep (fun p hp => h.cell0 hp.1 hp.2)).more fun b hb => ⟨Nat.lt_of_lt_of_le hb.1 h.size, by
    rintro ⟨r, hr, hb'⟩
    rcases (h.rng r (by simp [hr]) b hb').1 with q | q
    · exact hb.2 q
    · have : b < w0.heap.size := hb.1
      omega⟩

/-- A part that is owned, as a callee that rewrites other parts sees it. -/
theorem Held.lendR {M : Nat → Prop} {w0 : World} {xs rs : List Res} {w : World} {α : Type} {E : Enc α} {S : Nat → Prop} {cs : List Value} {x : α} (h : Held M w0 (xs ++ rs) w) {i : Nat} (hi : rs[i]? = some (rO E S cs x)) : E.R w (Out (Foot xs) w) cs x :=
  E.more (E.read (h.ok _ (List.mem_append_right _ (List.mem_of_getElem? hi)))) fun b hb => ⟨(h.rng _ (List.mem_append_right _ (List.mem_of_getElem? hi)) b hb).2, by
    rintro ⟨r, hr, hb'⟩
    exact (List.pairwise_append.1 h.sep).2.2 r hr _ (List.mem_of_getElem? hi) b hb' hb⟩

theorem Held.lendO {w0 : World} {xs rs : List Res} {w : World} {α : Type} {E : Enc α} {cs : List Value} {x : α} (h : Held Nob w0 (xs ++ rs) w) (hs : E.R w0 (Old w0) cs x) : E.R w (Out (Foot xs) w) cs x :=
  E.more (E.keep hs (fun p hp => h.cell0 hp fun h => h)) fun b hb => ⟨Nat.lt_of_lt_of_le hb h.size, by
    rintro ⟨r, hr, hb'⟩
    rcases (h.rng r (by simp [hr]) b hb').1 with q | q
    · exact q.elim
    · have : b < w0.heap.size := hb
      omega⟩

theorem Held.lendOM {M : Nat → Prop} {w0 : World} {xs rs : List Res} {w : World} {α : Type} {E : Enc α} {cs : List Value} {x : α} (h : Held M w0 (xs ++ rs) w) (hs : E.R w0 (Out M w0) cs x) : E.R w (Out (Foot xs) w) cs x :=
  E.more (E.keep hs (fun p hp => h.cell0 hp.1 hp.2)) fun b hb => ⟨Nat.lt_of_lt_of_le hb.1 h.size, by
    rintro ⟨r, hr, hb'⟩
    rcases (h.rng r (by simp [hr]) b hb').1 with q | q
    · exact hb.2 q
    · have : b < w0.heap.size := hb.1
      omega⟩

theorem Held.nfB {M : Nat → Prop} {w0 : World} {xs rs : List Res} {w : World} (h : Held M w0 (xs ++ rs) w) {i g : Nat} {t : TypeId} {cs : List Value} (hi : rs[i]? = some (rBlk g t cs)) : ¬ Foot xs g := by
  rintro ⟨r, hr, hb'⟩
  exact (List.pairwise_append.1 h.sep).2.2 r hr _ (List.mem_of_getElem? hi) g hb' rfl

theorem block_of_cell {w : World} {b o : Nat} {v : Value} (h : w.cell? ⟨b, o, none⟩ = some v) : b < w.heap.size := by
  rcases Nat.lt_or_ge b w.heap.size with h1 | h1
  · exact h1
  · exfalso
    unfold World.cell? at h
    simp [Array.getElem?_eq_none h1] at h

theorem Held.nfO {w0 : World} {xs rs : List Res} {w : World} (h : Held Nob w0 (xs ++ rs) w) {b o : Nat} {v : Value} (hc : w0.cell? ⟨b, o, none⟩ = some v) : ¬ Foot xs b := by
  rintro ⟨r, hr, hb'⟩
  rcases (h.rng r (by simp [hr]) b hb').1 with q | q
  · exact q.elim
  · have := block_of_cell hc
    omega

theorem Held.nfOM {M : Nat → Prop} {w0 : World} {xs rs : List Res} {w : World} (h : Held M w0 (xs ++ rs) w) {b o : Nat} {v : Value} (hM : ¬ M b) (hc : w0.cell? ⟨b, o, none⟩ = some v) : ¬ Foot xs b := by
  rintro ⟨r, hr, hb'⟩
  rcases (h.rng r (by simp [hr]) b hb').1 with q | q
  · exact hM q
  · have := block_of_cell hc
    omega

/-- The flat part in front given up. -/
theorem Held.unF {M : Nat → Prop} {w0 : World} {rs : List Res} {w : World} {α β : Type} {E : Enc α} {F : Enc β} {S : Nat → Prop} {v : Value} {cs : List Value} {x : α × β} (h1 : E.size = 1) (h : Held M w0 (rO (ePr E F) S (v :: cs) x :: rs) w) : Held M w0 (rO F S cs x.2 :: rs) w := by
  refine h.turn _ ?_ fun _ hb => hb
  rintro ⟨c1, c2, S1, S2, he, k1, k2, o1, o2⟩
  have hl := E.len (E.read o1)
  rw [h1] at hl
  obtain ⟨u, rfl⟩ := List.length_eq_one_iff.1 hl
  simp at he
  obtain ⟨_, rfl⟩ := he
  exact F.omore o2 k2

theorem Held.unP {M : Nat → Prop} {w0 : World} {rs : List Res} {w : World} {α β : Type} {E : Enc α} {F : Enc β} {S : Nat → Prop} {v : Value} {cs : List Value} {x : α × β} (h1 : E.size = 1) (h : Held M w0 (rO (ePr E F) S (v :: cs) x :: rs) w) : ∃ S1 S2, Held M w0 (rO E S1 [v] x.1 :: rO F S2 cs x.2 :: rs) w := by
  obtain ⟨c1, c2, S1, S2, he, k1, k2, o1, o2⟩ := h.ok _ (List.mem_cons_self)
  have hl := E.len (E.read o1)
  rw [h1] at hl
  obtain ⟨u, rfl⟩ := List.length_eq_one_iff.1 hl
  simp at he
  obtain ⟨rfl, rfl⟩ := he
  have hs := List.pairwise_cons.1 h.sep
  refine ⟨S1, S2, h.chg, ?_, ?_, ?_⟩
  · intro r hr
    simp only [List.mem_cons] at hr
    rcases hr with rfl | rfl | hr
    · exact o1
    · exact o2
    · exact h.ok r (by simp [hr])
  · intro r hr b hb
    simp only [List.mem_cons] at hr
    rcases hr with rfl | rfl | hr
    · exact h.rng _ (List.mem_cons_self) b (k1 b hb).1
    · exact h.rng _ (List.mem_cons_self) b (k2 b hb)
    · exact h.rng r (by simp [hr]) b hb
  · refine List.pairwise_cons.2 ⟨fun r hr b hb hb' => ?_, List.pairwise_cons.2 ⟨fun r hr b hb hb' => hs.1 r hr b (k2 b hb) hb', hs.2⟩⟩
    rcases List.mem_cons.1 hr with rfl | hr
    · exact (k1 b hb).2 hb'
    · exact hs.1 r hr b (k1 b hb).1 hb'

/-- An owned slice with one element laid open: its cells es; what the element owns (T) is held apart. -/
def Foc {α : Type} (E : Enc α) (w : World) (S : Nat → Prop) (b off c : Nat) (xs : List α) (k : Nat) (es : List Value) : Prop :=
  k < xs.length ∧ xs.length ≤ c ∧ c ≤ maxLen ∧ S b ∧ es.length = E.size ∧ ∃ (t : TypeId) (cur : Array Value) (T : Nat → Nat → Prop), Blk w b t cur ∧ (∀ i m, T i m → S m ∧ m ≠ b) ∧ (∀ i j m, T i m → T j m → i = j) ∧
    (∀ j v, es[j]? = some v → cur[off + k * E.size + j]? = some v) ∧ ∀ (i : Nat) (x : α), i ≠ k → xs[i]? = some x → ∃ us, E.O w (T i) us x ∧ ∀ j v, us[j]? = some v → cur[off + i * E.size + j]? = some v

theorem Foc.keep {α : Type} {E : Enc α} {w w' : World} {S : Nat → Prop} {b off c : Nat} {xs : List α} {k : Nat} {es : List Value} (h : Foc E w S b off c xs k es) (hk : ∀ b, S b → w'.heap[b]? = w.heap[b]?) : Foc E w' S b off c xs k es := by
  obtain ⟨h1, h2, h3, h4, h5, t, cur, T, hB, hT, hd, hc, hr⟩ := h
  refine ⟨h1, h2, h3, h4, h5, t, cur, T, (hk b h4).trans hB, hT, hd, hc, fun i x hi hx => ?_⟩
  obtain ⟨us, q1, q2⟩ := hr i x hi hx
  exact ⟨us, E.okeep q1 fun m hm => hk m (hT i m hm).1, q2⟩

def rFoc {α : Type} (E : Enc α) (S : Nat → Prop) (b off c : Nat) (xs : List α) (k : Nat) (es : List Value) : Res := ⟨S, fun w => Foc E w S b off c xs k es, fun _ _ h hf => hf.keep h⟩

theorem Held.open {M : Nat → Prop} {w0 : World} {rs : List Res} {w : World} {α : Type} {E : Enc α} {S : Nat → Prop} {A : Option Addr} {c : Nat} {xs : List α} (h : Held M w0 (rSo E S A c xs :: rs) w) {k : Nat} (hk : k < xs.length) :
    ∃ b off es T, A = some ⟨b, off, none⟩ ∧ E.R w (Old w) es xs[k] ∧ (∀ m, T m → S m ∧ m ≠ b) ∧ Held M w0 (rFoc E (fun m => S m ∧ ¬ T m) b off c xs k es :: rO E T es xs[k] :: rs) w := by
  have hso := so_of_o (h.ok _ (List.mem_cons_self))
  have hrng := h.rng _ (List.mem_cons_self)
  obtain ⟨b, off, t, cur, T, hA, hb, hB, hT, hd, hc⟩ := hso.2.2 (by intro e; subst e; simp at hk)
  obtain ⟨es, h1, h2⟩ := hc k xs[k] (List.getElem?_eq_getElem hk)
  have hs := List.pairwise_cons.1 h.sep
  refine ⟨b, off, es, T k, hA, E.more (E.read h1) (fun m hm => (hrng m (hT k m hm).1).2), fun m hm => hT k m hm, h.chg, ?_, ?_, ?_⟩
  · intro r hr
    simp only [List.mem_cons] at hr
    rcases hr with rfl | rfl | hr
    · refine ⟨hk, hso.1, hso.2.1, ⟨hb, fun hm => (hT k b hm).2 rfl⟩, E.len (E.read h1), t, cur, fun i m => i ≠ k ∧ T i m, hB, fun i m hm => ⟨⟨(hT i m hm.2).1, fun hm' => hm.1 (hd i k m hm.2 hm')⟩, (hT i m hm.2).2⟩, fun i j m h3 h4 => hd i j m h3.2 h4.2, h2, fun i x hi hx => ?_⟩
      obtain ⟨us, q1, q2⟩ := hc i x hx
      exact ⟨us, E.omore q1 fun m hm => ⟨hi, hm⟩, q2⟩
    · exact h1
    · exact h.ok r (by simp [hr])
  · intro r hr m hm
    simp only [List.mem_cons] at hr
    rcases hr with rfl | rfl | hr
    · exact hrng m hm.1
    · exact hrng m (hT k m hm).1
    · exact h.rng r (by simp [hr]) m hm
  · refine List.pairwise_cons.2 ⟨fun r hr m hm hm' => ?_, List.pairwise_cons.2 ⟨fun r hr m hm hm' => hs.1 r hr m (hT k m hm).1 hm', hs.2⟩⟩
    rcases List.mem_cons.1 hr with rfl | hr
    · exact hm.2 hm'
    · exact hs.1 r hr m hm.1 hm'

theorem Held.shut {M : Nat → Prop} {w0 : World} {rs : List Res} {w : World} {α : Type} {E : Enc α} {S T : Nat → Prop} {b off c k : Nat} {xs : List α} {es : List Value} {y : α} (h : Held M w0 (rFoc E S b off c xs k es :: rO E T es y :: rs) w) : Held M w0 (rSo E (fun m => S m ∨ T m) (some ⟨b, off, none⟩) c (xs.set k y) :: rs) w := by
  refine h.join _ (fun hf ho hd => ?_) fun _ hb => hb
  obtain ⟨h1, h2, h3, h4, h5, t, cur, T', hB, hT, hd', hc, hr⟩ := hf
  refine oSl ⟨by rw [List.length_set]; exact h2, h3, fun _ => ⟨b, off, t, cur, fun i m => (i = k ∧ T m) ∨ (i ≠ k ∧ T' i m), rfl, .inl h4, hB, ?_, ?_, fun i x hx => ?_⟩⟩
  · rintro i m (⟨_, hm⟩ | ⟨_, hm⟩)
    · exact ⟨.inr hm, fun e => hd b h4 (e ▸ hm)⟩
    · exact ⟨.inl (hT i m hm).1, (hT i m hm).2⟩
  · rintro i j m (⟨hi, hm⟩ | ⟨hi, hm⟩) (⟨hj, hm'⟩ | ⟨hj, hm'⟩)
    · rw [hi, hj]
    · exact absurd hm (hd m (hT j m hm').1)
    · exact absurd hm' (hd m (hT i m hm).1)
    · exact hd' i j m hm hm'
  · by_cases e : i = k
    · subst e
      rw [List.getElem?_set_self h1] at hx
      simp at hx; subst hx
      exact ⟨es, E.omore ho fun m hm => .inl ⟨rfl, hm⟩, hc⟩
    · rw [List.getElem?_set_ne (fun h => e h.symm)] at hx
      obtain ⟨us, q1, q2⟩ := hr i x e hx
      exact ⟨us, E.omore q1 fun m hm => .inr ⟨e, hm⟩, q2⟩

theorem c_ownV {M : Nat → Prop} {w0 : World} {rs : List Res} {S : Nat → Prop} {b off c k : Nat} {xs : List Int} {y : Int} (i : Nat) (hi : rs[i]? = some (rSo eInt S (some ⟨b, off, none⟩) c xs)) (hk : k < xs.length) (hy : xs[k] = y) : ∀ w, Held M w0 rs w → w.cell? ⟨b, off + k * 1, none⟩ = some (.int .i64 y) := fun w h => by
  rw [← hy]; exact c_ownI i hi hk w h

theorem c_ownB {M : Nat → Prop} {w0 : World} {rs : List Res} {S : Nat → Prop} {b off c k : Nat} {xs : List Bool} (i : Nat) (hi : rs[i]? = some (rSo eBool S (some ⟨b, off, none⟩) c xs)) (hk : k < xs.length) : ∀ w, Held M w0 rs w → w.cell? ⟨b, off + k * 1, none⟩ = some (.bool xs[k]) := fun w h => by
  obtain ⟨b', off', es, hA, _, hR, hc⟩ := (h.sl hi).at1 rfl hk
  simp only [Option.some.injEq, Addr.mk.injEq, and_true] at hA
  obtain ⟨rfl, rfl⟩ := hA
  obtain rfl := hR
  rw [Nat.mul_one]; exact hc _ rfl

theorem c_ownBV {M : Nat → Prop} {w0 : World} {rs : List Res} {S : Nat → Prop} {b off c k : Nat} {xs : List Bool} {y : Bool} (i : Nat) (hi : rs[i]? = some (rSo eBool S (some ⟨b, off, none⟩) c xs)) (hk : k < xs.length) (hy : xs[k] = y) : ∀ w, Held M w0 rs w → w.cell? ⟨b, off + k * 1, none⟩ = some (.bool y) := fun w h => by
  rw [← hy]; exact c_ownB i hi hk w h

theorem Held.relen {M : Nat → Prop} {w0 : World} {rs : List Res} {w : World} {α : Type} {E : Enc α} {S : Nat → Prop} {A : Option Addr} {c n : Nat} {xs : List α} (h : Held M w0 (rSo E S A c xs :: rs) w) (hn : xs.length = n) : Held M w0 (rO (eSl E) S [.slice A n c] xs :: rs) w := hn ▸ h

theorem Held.lt {M : Nat → Prop} {w0 : World} {rs : List Res} {w : World} (h : Held M w0 rs w) {i : Nat} {r : Res} (hi : rs[i]? = some r) : ∀ b, r.S b → b < w.heap.size := fun b hb => (h.rng r (List.mem_of_getElem? hi) b hb).2

/-- What a callee made, beside what is held. -/
theorem Held.app {M : Nat → Prop} {w0 : World} {rs qs : List Res} {w w' : World} (h : Held M w0 rs w) (h' : Held Nob w qs w') : Held M w0 (qs ++ rs) w' where
  chg := (h.on h'.below).chg
  ok := by
    intro r hr
    rcases List.mem_append.1 hr with hr | hr
    · exact h'.ok r hr
    · exact (h.on h'.below).ok r hr
  rng := by
    intro r hr b hb
    rcases List.mem_append.1 hr with hr | hr
    · have h1 := h'.rng r hr b hb
      exact ⟨.inr (Nat.le_trans h.size (h1.1.resolve_left fun q => q.elim)), h1.2⟩
    · exact (h.on h'.below).rng r hr b hb
  sep := by
    refine List.pairwise_append.2 ⟨h'.sep, h.sep, fun r hr s hs b hb hb' => ?_⟩
    have h1 := (h'.rng r hr b hb).1.resolve_left fun q => q.elim
    have h2 := (h.rng s hs b hb').2
    omega

/-- Held only if p holds. -/
def rIf (p : Prop) (r : Res) : Res := ⟨r.S, fun w => p → r.φ w, fun w w' h hp hq => r.loc w w' h (hp hq)⟩

theorem Held.toIf {M : Nat → Prop} {w0 : World} {rs : List Res} {r : Res} {w : World} (h : Held M w0 (r :: rs) w) (p : Prop) : Held M w0 (rIf p r :: rs) w :=
  h.turn (rIf p r) (fun hr _ => hr) fun _ h => h

theorem Held.ofIf {M : Nat → Prop} {w0 : World} {rs : List Res} {r : Res} {w : World} {p : Prop} (h : Held M w0 (rIf p r :: rs) w) (hp : p) : Held M w0 (r :: rs) w :=
  h.turn r (fun hr => hr hp) fun _ h => h

theorem Held.noIf {M : Nat → Prop} {w0 : World} {rs : List Res} {w : World} {p : Prop} (h : Held M w0 rs w) {α : Type} {E : Enc α} {A : Option Addr} {c : Nat} {xs : List α} (r : Res) (hp : ¬ p) (hr : r = rSo E Nob A c xs := by rfl) : Held M w0 (rIf p r :: rs) w := by
  subst hr
  exact h.new (Below.refl _ _) (rIf p (rSo E Nob A c xs)) (fun hq => absurd hq hp) fun _ h => h.elim

theorem foc_store1 {P : Program} {M : Nat → Prop} {w0 w : World} {rs : List Res} {α : Type} {E : Enc α} {S : Nat → Prop} {b off c k j : Nat} {xs : List α} {es : List Value} {v : Value} {i : Nat} (hH : Held M w0 rs w) (hv : v.oneCell' = true) (hi : rs[i]? = some (rFoc E S b off c xs k es)) (hj' : j < es.length) :
    Held M w0 (rs.set i (rFoc E S b off c xs k (es.set j v))) (w.setCell ⟨b, off + k * E.size + j, none⟩ v) ∧ (Go.store ⟨b, off + k * E.size + j, none⟩ v).run P w = .ok () (w.setCell ⟨b, off + k * E.size + j, none⟩ v) := by
  have hf : Foc E w S b off c xs k es := hH.get hi
  obtain ⟨h1, h2, h3, h4, h5, tt, cur, T, hB, hT, hd, hc, hr⟩ := hf
  have hcell : w.cell? ⟨b, off + k * E.size + j, none⟩ = some es[j] := by rw [hB.cell]; exact hc j _ (List.getElem?_eq_getElem hj')
  have hfz : w.frozen? ⟨b, off + k * E.size + j, none⟩ = false := hB.frozen _
  have hlt : off + k * E.size + j < cur.size := lt_of_get (hc j _ (List.getElem?_eq_getElem hj'))
  have hnew : Foc E (w.setCell ⟨b, off + k * E.size + j, none⟩ v) S b off c xs k (es.set j v) := by
    refine ⟨h1, h2, h3, h4, by simpa using h5, tt, _, T, hB.set _ v, hT, hd, fun j' u hu => ?_, fun i' y' hi' hx' => ?_⟩
    · by_cases e : j' = j
      · subst e
        rw [List.getElem?_set_self hj'] at hu
        rw [Array.getElem?_setIfInBounds_self_of_lt hlt]; exact hu
      · rw [List.getElem?_set_ne (fun h => e h.symm)] at hu
        rw [Array.getElem?_setIfInBounds_ne (by omega)]; exact hc j' u hu
    · obtain ⟨us, q1, q2⟩ := hr i' y' hi' hx'
      refine ⟨us, E.okeep q1 fun m hm => Below.heap_setCell _ _ _ _ (hT i' m hm).2, fun j' u hu => ?_⟩
      have hju := (List.getElem?_eq_some_iff.1 hu).1
      have hlu := E.len (E.read q1)
      rw [Array.getElem?_setIfInBounds_ne]
      · exact q2 j' u hu
      · rcases Nat.lt_or_gt_of_ne hi' with hlt' | hlt'
        · have : (i' + 1) * E.size ≤ k * E.size := Nat.mul_le_mul_right _ (by omega)
          rw [Nat.succ_mul] at this; omega
        · have : (k + 1) * E.size ≤ i' * E.size := Nat.mul_le_mul_right _ (by omega)
          rw [Nat.succ_mul] at this; omega
  refine ⟨hH.mut hi ((Chg.refl _ _).set (by exact h4) _) (rFoc E S b off c xs k (es.set j v)) hnew fun b hb => .inl hb, ?_⟩
  cases v <;> first | (simp [Value.oneCell'] at hv; done) | simp [Go.store, Sem.run, hcell, hfz]

theorem run_storeCellsF {P : Program} {M : Nat → Prop} {w0 : World} {α : Type} {E : Enc α} {S : Nat → Prop} {b off c k : Nat} {xs : List α} {i : Nat} : ∀ (vs : List Value) (rs : List Res) (es : List Value) (w : World) (j : Nat), Held M w0 rs w → rs[i]? = some (rFoc E S b off c xs k es) → j + vs.length ≤ es.length → (∀ v ∈ vs, v.oneCell' = true) →
    ∃ w', (storeCells ⟨b, off + k * E.size, none⟩ vs j).run P w = .ok () w' ∧ Held M w0 (rs.set i (rFoc E S b off c xs k (setL es j vs))) w'
  | [], rs, es, w, j, h, hi, _, _ => ⟨w, by simp [storeCells], by
      have : rs.set i (rFoc E S b off c xs k (setL es j [])) = rs := by
        apply List.ext_getElem?
        intro m
        by_cases e : i = m
        · subst e; rw [List.getElem?_set_self (List.getElem?_eq_some_iff.1 hi).1, hi]; rfl
        · rw [List.getElem?_set_ne e]
      rw [this]; exact h⟩
  | v :: vs, rs, es, w, j, h, hi, hl, h1 => by
    rw [List.length_cons] at hl
    obtain ⟨h2, hs⟩ := foc_store1 (P := P) (j := j) h (h1 v (by simp)) hi (by omega)
    have hi' : (rs.set i (rFoc E S b off c xs k (es.set j v)))[i]? = some (rFoc E S b off c xs k (es.set j v)) := List.getElem?_set_self (List.getElem?_eq_some_iff.1 hi).1
    obtain ⟨w', e1, e2⟩ := run_storeCellsF (P := P) vs _ (es.set j v) _ (j + 1) h2 hi' (by rw [List.length_set]; omega) (fun u hu => h1 u (by simp [hu]))
    refine ⟨w', ?_, ?_⟩
    · simp only [storeCells, add_none, Sem.run_bind, hs, Result.andThen_ok, e1]
    · rw [List.set_set] at e2
      exact e2

theorem st_storeFN {P : Program} {ops : Array Oper} {Q : Exit → Act → World → Prop} {a : Act} {w : World} {K : Act → World → Prop} {n : Nat} {L : List (Nat × Value)} {M : Nat → Prop} {w0 : World} {rs : List Res} {α : Type} {E : Enc α} {t : TypeId} {agg : Bool} {zs : List Value} {x y : Operand} {S : Nat → Prop} {b off c k o : Nat} {xs : List α} {es vs : List Value} {v : Value} {ty : TypeId} {pos : String} {af : Array Edge} {gd : Option (Nat × Bool)} (i : Nat) (hE : Env n L a) (hH : Held M w0 rs w) (ht : TV P t agg zs) (hx : ev L x = some (.pointer (some ⟨b, o, none⟩))) (ho : o = off + k * E.size) (hy : ev L y = some v) (hv : v.cells = vs.toArray) (hz : vs.length = zs.length) (hi : rs[i]? = some (rFoc E S b off c xs k es)) (hj : Nat.ble (0 + vs.length) es.length = true) (h1 : ∀ v ∈ vs, v.oneCell' = true) (hw : Region.wanted ⟨none, .store t x y, ty, pos, af, gd⟩ (yielded ops a.tmps) = true)
    (kk : ∀ w', Held M w0 (rs.set i (rFoc E S b off c xs k (setL es 0 vs))) w' → K a w') : Stp P ops Q ⟨none, .store t x y, ty, pos, af, gd⟩ a w K := by
  subst ho
  obtain ⟨w', h2, h3⟩ := run_storeCellsF (P := P) vs rs es w 0 hH hi (Nat.le_of_ble_eq_true hj) h1
  refine st_skip hw ?_ rfl (kk _ h3)
  obtain ⟨ii, z, e1, _, e3, _⟩ := ht.info
  simp only [execOp, hE.ev hx, hE.ev hy, Instr.storeAt, Instr.sureAddr, storeVar, sizeOf, typeInfo, Sem.run_bind, Sem.run_pure, Result.andThen_ok, run_program, e1]
  simp [hv, h2, e3, hz]

/-- A builder in block b, its own blocks in S, holding the bytes l. -/
def BldIn (T e : TypeId) (B b : Nat) (S : Nat → Prop) (l : List UInt8) (w : World) : Prop :=
  Lib.IsBuilderF T e B b (Lib.byteCells l) w ∧ S b ∧ ∀ p v g, w.heap[b]? = some (.cells #[p, v] T (0, 0)) → v.ownBlock = some g → S g

theorem BldIn.loc {T e : TypeId} {B b : Nat} {S : Nat → Prop} {l : List UInt8} {w w' : World} (hs : ∀ k, S k → w'.heap[k]? = w.heap[k]?) (h : BldIn T e B b S l w) : BldIn T e B b S l w' := by
  obtain ⟨h1, h2, h3⟩ := h
  have key : ∀ p, Lib.BuilderAtF T e B b p (Lib.byteCells l) w → Lib.BuilderAtF T e B b p (Lib.byteCells l) w' := by
    rintro p ⟨hB, v, hb, hown, hne⟩
    refine ⟨hB, v, (hs b h2).trans hb, ⟨hown.1, ?_⟩, hne⟩
    rcases hown.2 with hn | ⟨g, cap, cur, fz, rfl, hbg, hg, rest⟩
    · exact .inl hn
    · exact .inr ⟨g, cap, cur, fz, rfl, hbg, (hs g (h3 _ _ g hb (by simp [Value.ownBlock]))).trans hg, rest⟩
  refine ⟨?_, h2, fun p v g hb hv => h3 p v g ((hs b h2).symm.trans hb) hv⟩
  rcases h1 with h | h
  · exact .inl (key _ h)
  · exact .inr (key _ h)

def rBldT (T e : TypeId) (B b : Nat) (S : Nat → Prop) (l : List UInt8) : Res := ⟨S, BldIn T e B b S l, fun _ _ hs h => BldIn.loc hs h⟩

theorem BldIn.mk {T e : TypeId} {B b : Nat} {l : List UInt8} {w : World} (h : Lib.IsBuilderF T e B b (Lib.byteCells l) w) : BldIn T e B b (Iv B w.heap.size) l w := by
  have hb : B ≤ b ∧ b < w.heap.size := by
    rcases h with h | h
    · exact ⟨h.1, h.lt⟩
    · exact ⟨h.1, h.lt⟩
  refine ⟨h, hb, fun p v g hh hv => ?_⟩
  have key : ∀ q, Lib.BuilderAtF T e B b q (Lib.byteCells l) w → Iv B w.heap.size g := by
    rintro q ⟨_, v', hb', hown, _⟩
    rw [hh] at hb'
    simp only [Option.some.injEq, Obj.cells.injEq, and_true] at hb'
    have e2 : v = v' := by
      have := congrArg (fun a : Array Value => a[1]?) hb'
      simpa using this
    subst e2
    exact hown.lt g hv
  rcases h with h | h
  · exact key _ h
  · exact key _ h

theorem Held.bldCall {T e : TypeId} {w0 w w' : World} {b : Nat} {S : Nat → Prop} {l l' : List UInt8} (h : Held Nob w0 [rBldT T e w0.heap.size b S l] w) (hb : Below w0.heap.size w w') (hi : Lib.IsBuilderF T e w0.heap.size b (Lib.byteCells l') w') : ∃ S', Held Nob w0 [rBldT T e w0.heap.size b S' l'] w' := by
  refine ⟨Iv w0.heap.size w'.heap.size, ?_⟩
  have hb2 : Below w0.heap.size w0 w' := h.below.trans hb
  exact ⟨.of_below hb2, by intro r hr; obtain rfl := List.mem_singleton.1 hr; exact BldIn.mk hi, by intro r hr; obtain rfl := List.mem_singleton.1 hr; exact fun k hk => ⟨.inr hk.1, hk.2⟩, List.pairwise_singleton _ _⟩

theorem Held.toBld {T e : TypeId} {w0 w : World} {b : Nat} {rs : List Res} (h : Held Nob w0 (rBlk b T [.pointer none, .slice none 0 0] :: rs) w) : ∃ S, Held Nob w0 [rBldT T e w0.heap.size b S []] w := by
  have hB : Blk w b T #[.pointer none, .slice none 0 0] := h.ok _ List.mem_cons_self
  have hr := h.rng _ (List.mem_cons_self) b rfl
  have hle : w0.heap.size ≤ b := hr.1.resolve_left fun x => x.elim
  have hi : Lib.IsBuilderF T e w0.heap.size b (Lib.byteCells []) w := .inl ⟨hle, _, hB, by simpa [Lib.byteCells] using World.ownsRowF_nil w w0.heap.size e 1, by simp [Value.ownBlock]⟩
  refine ⟨Iv w0.heap.size w.heap.size, ⟨h.chg, ?_, ?_, List.pairwise_singleton _ _⟩⟩
  · intro r hr; obtain rfl := List.mem_singleton.1 hr; exact BldIn.mk hi
  · intro r hr; obtain rfl := List.mem_singleton.1 hr; exact fun k hk => ⟨.inr hk.1, hk.2⟩

theorem Held.isBld {T e : TypeId} {M : Nat → Prop} {w0 w : World} {B b : Nat} {S : Nat → Prop} {l : List UInt8} {rs : List Res} (h : Held M w0 (rBldT T e B b S l :: rs) w) : Lib.IsBuilderF T e B b (Lib.byteCells l) w := (h.ok _ List.mem_cons_self : BldIn T e B b S l w).1

/-- Two struct values compared. -/
theorem x_aeql {P : Program} {S : World → Prop} {L : List (Nat × Value)} {d : Option Tmp} {t t' : TypeId} {x y : Operand} {xs ys : Array Value} {r : Bool} {ty : TypeId} {pos : String} {af : Array Edge} {g : Option (Nat × Bool)} (hm : P.eqGuardType P.depth t = false) (he : ∀ w, (Op.equalIn 10000 t (.agg xs) (.agg ys)).run P w = .ok r w) (hx : ev L x = some (.agg xs)) (hy : ev L y = some (.agg ys)) : XS P S L ⟨d, .binOp .eql t x y t', ty, pos, af, g⟩ (.bool r) := fun _ _ w hE _ => by
  simp only [execOp, hE.ev hx, hE.ev hy, Sem.run_bind, run_eqGuard_agg w .eql t x y xs ys hm, Result.andThen_ok, run_eql_struct, he]
  rfl

theorem x_aneq {P : Program} {S : World → Prop} {L : List (Nat × Value)} {d : Option Tmp} {t t' : TypeId} {x y : Operand} {xs ys : Array Value} {r : Bool} {ty : TypeId} {pos : String} {af : Array Edge} {g : Option (Nat × Bool)} (hm : P.eqGuardType P.depth t = false) (he : ∀ w, (Op.equalIn 10000 t (.agg xs) (.agg ys)).run P w = .ok r w) (hx : ev L x = some (.agg xs)) (hy : ev L y = some (.agg ys)) : XS P S L ⟨d, .binOp .neq t x y t', ty, pos, af, g⟩ (.bool (!r)) := fun _ _ w hE _ => by
  simp only [execOp, hE.ev hx, hE.ev hy, Sem.run_bind, run_eqGuard_agg w .neq t x y xs ys hm, Result.andThen_ok, run_neq_struct, he]
  rfl

theorem tv_2 : TV Try.prog 2 false [.int .i64 0] := by
  obtain ⟨i, h1, h2, h3⟩ := tv_parts (show (Try.prog.info? 2).map (fun i => (i.zero, i.size)) = some (some (.int .i64 0), 1) from by kernel_rfl)
  exact ⟨⟨_, Try.underlying2, rfl⟩, i, _, h1, h2, h3, rfl⟩

theorem tv_4 : TV Try.prog 4 false [.bool false] := by
  obtain ⟨i, h1, h2, h3⟩ := tv_parts (show (Try.prog.info? 4).map (fun i => (i.zero, i.size)) = some (some (.bool false), 1) from by kernel_rfl)
  exact ⟨⟨_, Try.underlying4, rfl⟩, i, _, h1, h2, h3, rfl⟩

theorem tv_43 : TV Try.prog 43 true [.int .i64 0, .int .i64 0, .slice none 0 0] := by
  obtain ⟨i, h1, h2, h3⟩ := tv_parts (show (Try.prog.info? 43).map (fun i => (i.zero, i.size)) = some (some (.agg #[.int .i64 0, .int .i64 0, .slice none 0 0]), 3) from by kernel_rfl)
  exact ⟨⟨_, Try.underlying43, rfl⟩, i, _, h1, h2, h3, rfl⟩

theorem tv_44 : TV Try.prog 44 false [.slice none 0 0] := by
  obtain ⟨i, h1, h2, h3⟩ := tv_parts (show (Try.prog.info? 44).map (fun i => (i.zero, i.size)) = some (some (.slice none 0 0), 1) from by kernel_rfl)
  exact ⟨⟨_, Try.underlying44, rfl⟩, i, _, h1, h2, h3, rfl⟩

theorem tv_46 : TV Try.prog 46 false [.slice none 0 0] := by
  obtain ⟨i, h1, h2, h3⟩ := tv_parts (show (Try.prog.info? 46).map (fun i => (i.zero, i.size)) = some (some (.slice none 0 0), 1) from by kernel_rfl)
  exact ⟨⟨_, Try.underlying46, rfl⟩, i, _, h1, h2, h3, rfl⟩

theorem tv_48 : TV Try.prog 48 true [.int .i64 0, .int .i64 0, .slice none 0 0] := by
  obtain ⟨i, h1, h2, h3⟩ := tv_parts (show (Try.prog.info? 48).map (fun i => (i.zero, i.size)) = some (some (.agg #[.int .i64 0, .int .i64 0, .slice none 0 0]), 3) from by kernel_rfl)
  exact ⟨⟨_, Try.underlying48, rfl⟩, i, _, h1, h2, h3, rfl⟩

theorem tv_114 : TV Try.prog 114 true [.int .i64 0, .int .i64 0, .int .i64 0] := by
  obtain ⟨i, h1, h2, h3⟩ := tv_parts (show (Try.prog.info? 114).map (fun i => (i.zero, i.size)) = some (some (.agg #[.int .i64 0, .int .i64 0, .int .i64 0]), 3) from by kernel_rfl)
  exact ⟨⟨_, Try.underlying114, rfl⟩, i, _, h1, h2, h3, rfl⟩

theorem ts_44 : TSl Try.prog 44 2 1 8 := by
  obtain ⟨i, h1, h2, h3, h4⟩ := ts_parts (show (Try.prog.info? 2).map (fun i => (i.zero, i.size, i.bytes)) = some (some (.int .i64 0), 1, 8) from by kernel_rfl)
  exact ⟨Try.underlying44, i, _, h1, h2, h3, h4, rfl⟩

theorem ts_46 : TSl Try.prog 46 114 3 24 := by
  obtain ⟨i, h1, h2, h3, h4⟩ := ts_parts (show (Try.prog.info? 114).map (fun i => (i.zero, i.size, i.bytes)) = some (some (.agg #[.int .i64 0, .int .i64 0, .int .i64 0]), 3, 24) from by kernel_rfl)
  exact ⟨Try.underlying46, i, _, h1, h2, h3, h4, rfl⟩

theorem fa_48_0 : ∀ b o w, (Instr.fieldAt 48 (.pointer (some ⟨b, o, none⟩)) 0).run Try.prog w = .ok (.pointer (some ⟨b, o + 0, none⟩)) w := by
  obtain ⟨i, z, h1, _, h3, _⟩ := tv_2.info
  exact fun b o w => fieldAt_of (f := 0) Try.underlying48 rfl h1 (by rw [h3]; decide) b o w

theorem fa_48_1 : ∀ b o w, (Instr.fieldAt 48 (.pointer (some ⟨b, o, none⟩)) 1).run Try.prog w = .ok (.pointer (some ⟨b, o + 1, none⟩)) w := by
  obtain ⟨i, z, h1, _, h3, _⟩ := tv_2.info
  exact fun b o w => fieldAt_of (f := 1) Try.underlying48 rfl h1 (by rw [h3]; decide) b o w

theorem fa_48_2 : ∀ b o w, (Instr.fieldAt 48 (.pointer (some ⟨b, o, none⟩)) 2).run Try.prog w = .ok (.pointer (some ⟨b, o + 2, none⟩)) w := by
  obtain ⟨i, z, h1, _, h3, _⟩ := tv_46.info
  exact fun b o w => fieldAt_of (f := 2) Try.underlying48 rfl h1 (by rw [h3]; decide) b o w

theorem tb_48 : TB Try.prog 48 [.int .i64 0, .int .i64 0, .slice none 0 0] := by
  refine ⟨tv_48, _, #[(0, 1), (1, 1), (2, 1)], Try.underlying48, fun w => ?_, fun i hi => ?_⟩
  · obtain ⟨i2, z2, h2, _, s2, _⟩ := tv_2.info; simp only [List.length_cons, List.length_nil] at s2; obtain ⟨i46, z46, h46, _, s46, _⟩ := tv_46.info; simp only [List.length_cons, List.length_nil] at s46
    simp [sizeOf, typeInfo, h2, s2, h46, s46]
  · simp only [List.length_cons, List.length_nil] at hi
    match i, hi with
    | 0, _ => rfl
    | 1, _ => rfl
    | 2, _ => rfl

theorem fa_114_0 : ∀ b o w, (Instr.fieldAt 114 (.pointer (some ⟨b, o, none⟩)) 0).run Try.prog w = .ok (.pointer (some ⟨b, o + 0, none⟩)) w := by
  obtain ⟨i, z, h1, _, h3, _⟩ := tv_2.info
  exact fun b o w => fieldAt_of (f := 0) Try.underlying114 rfl h1 (by rw [h3]; decide) b o w

theorem fa_114_1 : ∀ b o w, (Instr.fieldAt 114 (.pointer (some ⟨b, o, none⟩)) 1).run Try.prog w = .ok (.pointer (some ⟨b, o + 1, none⟩)) w := by
  obtain ⟨i, z, h1, _, h3, _⟩ := tv_2.info
  exact fun b o w => fieldAt_of (f := 1) Try.underlying114 rfl h1 (by rw [h3]; decide) b o w

theorem fa_114_2 : ∀ b o w, (Instr.fieldAt 114 (.pointer (some ⟨b, o, none⟩)) 2).run Try.prog w = .ok (.pointer (some ⟨b, o + 2, none⟩)) w := by
  obtain ⟨i, z, h1, _, h3, _⟩ := tv_2.info
  exact fun b o w => fieldAt_of (f := 2) Try.underlying114 rfl h1 (by rw [h3]; decide) b o w

theorem tb_114 : TB Try.prog 114 [.int .i64 0, .int .i64 0, .int .i64 0] := by
  refine ⟨tv_114, _, #[(0, 1), (1, 1), (2, 1)], Try.underlying114, fun w => ?_, fun i hi => ?_⟩
  · obtain ⟨i2, z2, h2, _, s2, _⟩ := tv_2.info; simp only [List.length_cons, List.length_nil] at s2
    simp [sizeOf, typeInfo, h2, s2]
  · simp only [List.length_cons, List.length_nil] at hi
    match i, hi with
    | 0, _ => rfl
    | 1, _ => rfl
    | 2, _ => rfl

theorem ts_115 : TSl Try.prog 115 4 1 1 := by
  obtain ⟨i, h1, h2, h3, h4⟩ := ts_parts (show (Try.prog.info? 4).map (fun i => (i.zero, i.size, i.bytes)) = some (some (.bool false), 1, 1) from by kernel_rfl)
  exact ⟨Try.underlying115, i, _, h1, h2, h3, h4, rfl⟩

theorem en_21 : ∀ args w, (callFunc 21 args).run Try.prog w = .ok (.enter 21 args) w := enters_of Try.func21 (by kernel_rfl) rfl

theorem en_22 : ∀ args w, (callFunc 22 args).run Try.prog w = .ok (.enter 22 args) w := enters_of Try.func22 (by kernel_rfl) rfl

theorem en_23 : ∀ args w, (callFunc 23 args).run Try.prog w = .ok (.enter 23 args) w := enters_of Try.func23 (by kernel_rfl) rfl

theorem en_24 : ∀ args w, (callFunc 24 args).run Try.prog w = .ok (.enter 24 args) w := enters_of Try.func24 (by kernel_rfl) rfl

theorem en_25 : ∀ args w, (callFunc 25 args).run Try.prog w = .ok (.enter 25 args) w := enters_of Try.func25 (by kernel_rfl) rfl

theorem en_26 : ∀ args w, (callFunc 26 args).run Try.prog w = .ok (.enter 26 args) w := enters_of Try.func26 (by kernel_rfl) rfl

theorem en_27 : ∀ args w, (callFunc 27 args).run Try.prog w = .ok (.enter 27 args) w := enters_of Try.func27 (by kernel_rfl) rfl

theorem en_28 : ∀ args w, (callFunc 28 args).run Try.prog w = .ok (.enter 28 args) w := enters_of Try.func28 (by kernel_rfl) rfl

theorem en_29 : ∀ args w, (callFunc 29 args).run Try.prog w = .ok (.enter 29 args) w := enters_of Try.func29 (by kernel_rfl) rfl

theorem en_30 : ∀ args w, (callFunc 30 args).run Try.prog w = .ok (.enter 30 args) w := enters_of Try.func30 (by kernel_rfl) rfl

theorem en_39 : ∀ args w, (callFunc 39 args).run Try.prog w = .ok (.enter 39 args) w := enters_of Try.func39 (by kernel_rfl) rfl

theorem en_43 : ∀ args w, (callFunc 43 args).run Try.prog w = .ok (.enter 43 args) w := enters_of Try.func43 (by kernel_rfl) rfl

theorem en_55 : ∀ args w, (callFunc 55 args).run Try.prog w = .ok (.enter 55 args) w := enters_of Try.func55 (by kernel_rfl) rfl

theorem en_56 : ∀ args w, (callFunc 56 args).run Try.prog w = .ok (.enter 56 args) w := enters_of Try.func56 (by kernel_rfl) rfl

theorem en_57 : ∀ args w, (callFunc 57 args).run Try.prog w = .ok (.enter 57 args) w := enters_of Try.func57 (by kernel_rfl) rfl

theorem en_58 : ∀ args w, (callFunc 58 args).run Try.prog w = .ok (.enter 58 args) w := enters_of Try.func58 (by kernel_rfl) rfl

theorem en_60 : ∀ args w, (callFunc 60 args).run Try.prog w = .ok (.enter 60 args) w := enters_of Try.func60 (by kernel_rfl) rfl

theorem en_61 : ∀ args w, (callFunc 61 args).run Try.prog w = .ok (.enter 61 args) w := enters_of Try.func61 (by kernel_rfl) rfl

theorem en_62 : ∀ args w, (callFunc 62 args).run Try.prog w = .ok (.enter 62 args) w := enters_of Try.func62 (by kernel_rfl) rfl

theorem en_63 : ∀ args w, (callFunc 63 args).run Try.prog w = .ok (.enter 63 args) w := enters_of Try.func63 (by kernel_rfl) rfl

theorem en_64 : ∀ args w, (callFunc 64 args).run Try.prog w = .ok (.enter 64 args) w := enters_of Try.func64 (by kernel_rfl) rfl

theorem en_72 : ∀ args w, (callFunc 72 args).run Try.prog w = .ok (.enter 72 args) w := enters_of Try.func72 (by kernel_rfl) rfl

theorem en_87 : ∀ args w, (callFunc 87 args).run Try.prog w = .ok (.enter 87 args) w := enters_of Try.func87 (by kernel_rfl) rfl

theorem en_88 : ∀ args w, (callFunc 88 args).run Try.prog w = .ok (.enter 88 args) w := enters_of Try.func88 (by kernel_rfl) rfl

theorem en_89 : ∀ args w, (callFunc 89 args).run Try.prog w = .ok (.enter 89 args) w := enters_of Try.func89 (by kernel_rfl) rfl

theorem en_91 : ∀ args w, (callFunc 91 args).run Try.prog w = .ok (.enter 91 args) w := enters_of Try.func91 (by kernel_rfl) rfl

theorem en_92 : ∀ args w, (callFunc 92 args).run Try.prog w = .ok (.enter 92 args) w := enters_of Try.func92 (by kernel_rfl) rfl

theorem en_93 : ∀ args w, (callFunc 93 args).run Try.prog w = .ok (.enter 93 args) w := enters_of Try.func93 (by kernel_rfl) rfl

theorem en_94 : ∀ args w, (callFunc 94 args).run Try.prog w = .ok (.enter 94 args) w := enters_of Try.func94 (by kernel_rfl) rfl

theorem en_95 : ∀ args w, (callFunc 95 args).run Try.prog w = .ok (.enter 95 args) w := enters_of Try.func95 (by kernel_rfl) rfl

theorem en_96 : ∀ args w, (callFunc 96 args).run Try.prog w = .ok (.enter 96 args) w := enters_of Try.func96 (by kernel_rfl) rfl

theorem en_97 : ∀ args w, (callFunc 97 args).run Try.prog w = .ok (.enter 97 args) w := enters_of Try.func97 (by kernel_rfl) rfl

theorem en_98 : ∀ args w, (callFunc 98 args).run Try.prog w = .ok (.enter 98 args) w := enters_of Try.func98 (by kernel_rfl) rfl

theorem en_109 : ∀ args w, (callFunc 109 args).run Try.prog w = .ok (.enter 109 args) w := enters_of Try.func109 (by kernel_rfl) rfl

theorem en_110 : ∀ args w, (callFunc 110 args).run Try.prog w = .ok (.enter 110 args) w := enters_of Try.func110 (by kernel_rfl) rfl

theorem en_111 : ∀ args w, (callFunc 111 args).run Try.prog w = .ok (.enter 111 args) w := enters_of Try.func111 (by kernel_rfl) rfl

theorem hmix : Try.prog.follows .mixedOrders = true := by kernel_rfl

theorem elem_Int64 : Elem Try.prog eInt 44 2 8 := by
  obtain ⟨i0, hi0, hz0, hz1, hz2⟩ := info_parts info_impl_Int64
  exact ⟨Try.underlying44, i0, _, hi0, hz0, hz1, hz2, rfl⟩

set_option maxHeartbeats 400000 in
theorem Clone_Int64 (A : Option Addr) (c : Nat) (xs : List Int) (w : World) (h : Sl eInt w (Old w) A c xs) (hsm : xs.length ≤ 1000000000000) :
    Calls Try.prog 72 #[.slice A xs.length c] w fun e w' => ∃ A' c', e = .returned (.slice A' xs.length c') ∧ So eInt w' (Fr w w') A' c' xs ∧ Below w.heap.size w w' := by
  have q22 : ∀ (w : World) (a : Option Addr) (n c n' c' : Nat), (binOp .eql 44 (.slice a n c) (.slice none n' c')).run Try.prog w = .ok (.bool a.isNone) w := fun w a n c n' c' => Lib.run_eql_slice_nil w _ _ a n c n' c' Try.underlying44
  cases A with
  | none =>
    have hx : xs = [] := Classical.byContradiction fun hn => by
      obtain ⟨b, off, hA, _⟩ := h.2.2 hn
      cases hA
    subst hx
    clear h
    go_enter Try.func72, Try.ntmps72
    go_wp2
    go_ret
    exact ⟨none, 0, rfl, So.nil (Nat.zero_le _), Below.refl _ _⟩
  | some ad =>
    have H := Lib.hid (h.on (below_alloc (Below.refl _ _) (.cells #[] 2))); clear h
    go_enter Try.func72, Try.ntmps72
    go_wp2_with (at_builtin; refine wpList_append_row flat_int elem_Int64 rfl _ _ rfl (base := w.heap.size) rfl (Row.empty (Nat.le_refl _)) rfl H.out (by simp only [List.length_nil]; unfold maxLen; omega) (by simp only [List.length_nil]; omega) (by simp) ?_)
    intro v' w1 hrow hgrow hat
    try rw [List.nil_append] at hrow
    obtain ⟨A', c', rfl, hso⟩ := hrow.so
    have HO := Lib.hid hso
    have HL : Hid (Below w.heap.size w w1) := ((Below.refl _ w).alloc (Nat.le_refl _) _).grown hgrow (by simp) (by intro k hk; simp [Value.ownBlock] at hk; omega)
    clear hrow hgrow hat hso
    go_wp2
    go_ret
    exact ⟨A', c', rfl, HO.out, HL.out⟩

def encRule (x : tRule) : List Value := [.int .i64 x.1, .int .i64 x.2.1, .int .i64 x.2.2]

theorem flat_Rule : Flat eRule encRule :=
  ⟨fun h => by
    obtain ⟨rfl, h0, h1, h2⟩ := shape_Rule h
    exact ⟨rfl, fun _ => (oPrI h0 (oPrI h1 (oI h2)))⟩, fun x u hu => by
    simp only [encRule, List.mem_cons, List.not_mem_nil, or_false] at hu
    rcases hu with rfl | rfl | rfl <;> rfl⟩

theorem elem_Rule : Elem Try.prog eRule 46 114 24 := by
  obtain ⟨i0, hi0, hz0, hz1, hz2⟩ := info_parts info_impl_Rule
  exact ⟨Try.underlying46, i0, _, hi0, hz0, hz1, hz2, rfl⟩

theorem left_ok {l : Int} {n : Nat} (h : ¬ left l n < 0) : left l n = l - (n : Int) ∧ (n : Int) ≤ l := by
  unfold left at *; split at h <;> simp_all <;> omega

theorem heap_row {w : World} {g n off : Nat} {os : Array Obj} {cur : Array Value} {e : TypeId} {fr : Nat × Nat} (d : Array Int) (hb : w.heap[g]? = some (.cells cur e fr)) :
    (Go.Sort.grow (Go.Sort.putRow (Value.int .i64) (Go.Sort.ahead w n) g off d) os).heap[g]? = some (.cells (Go.Sort.putCells (Value.int .i64) off d cur) e fr) := by
  have hg : g < w.heap.size := (Array.getElem?_eq_some_iff.1 hb).1
  rw [Go.Sort.heap_grow_old _ _ (by simpa using hg)]
  simp [Go.Sort.putRow, Go.Sort.mapBlock, Go.Sort.ahead, Array.getElem?_modify, hb, Go.Sort.onCells]

theorem chg_row {w : World} {g n off : Nat} {os : Array Obj} {S : Nat → Prop} (d : Array Int) (hS : S g) : Chg S w (Go.Sort.grow (Go.Sort.putRow (Value.int .i64) (Go.Sort.ahead w n) g off d) os) := by
  refine ⟨rfl, rfl, rfl, by simp, fun k hk hne => ?_⟩
  rw [Go.Sort.heap_grow_old _ _ (by simpa using hk)]
  have : g ≠ k := fun e => hne (by rw [← e]; exact hS)
  simp [Go.Sort.putRow, Go.Sort.mapBlock, Go.Sort.ahead, Array.getElem?_modify, this]

theorem so_row {w : World} {S : Nat → Prop} {A : Option Addr} {c : Nat} {xs : List Int} (h : So eInt w S A c xs) (hx : xs ≠ []) :
    ∃ b off, A = some ⟨b, off, none⟩ ∧ S b ∧ b < w.heap.size ∧ Go.Sort.Holds (Value.int .i64) w b off xs.toArray ∧ (∀ x ∈ xs, I64 x) ∧
      ∀ (ys : List Int) (n : Nat) (os : Array Obj), ys.length = xs.length → (∀ y ∈ ys, I64 y) → So eInt (Go.Sort.grow (Go.Sort.putRow (Value.int .i64) (Go.Sort.ahead w n) b off ys.toArray) os) S A c ys ∧ Chg S w (Go.Sort.grow (Go.Sort.putRow (Value.int .i64) (Go.Sort.ahead w n) b off ys.toArray) os) := by
  obtain ⟨h1, h2, h3⟩ := h
  obtain ⟨b, off, t, cur, T, rfl, hb, hB, hT1, hT2, hE⟩ := h3 hx
  have hcell : ∀ (i : Nat) (x : Int), xs[i]? = some x → cur[off + i]? = some (.int .i64 x) ∧ I64 x := by
    intro i x hi
    obtain ⟨es, ⟨rfl, hI⟩, hc⟩ := hE i x hi
    have := hc 0 _ rfl
    rw [show off + i * eInt.size + 0 = off + i from by simp [eInt]] at this
    exact ⟨this, hI⟩
  refine ⟨b, off, rfl, hb, Blk.lt hB, ?_, ?_, ?_⟩
  · intro j hj
    have hj' : j < xs.length := by simpa using hj
    refine ⟨?_, by
      have hB' : w.heap[b]? = some (.cells cur t (0, 0)) := hB
      simp [World.frozen?, hB']⟩
    rw [hB.cell, (hcell j xs[j] (List.getElem?_eq_getElem hj')).1]
    simp [hj']
  · intro x hx'
    obtain ⟨i, hi⟩ := List.mem_iff_getElem?.1 hx'
    exact (hcell i x hi).2
  · intro ys n os hl hI
    refine ⟨⟨by omega, h2, fun _ => ⟨b, off, t, _, T, rfl, hb, heap_row ys.toArray hB, hT1, hT2, ?_⟩⟩, chg_row _ hb⟩
    intro i y hy
    refine ⟨[.int .i64 y], ⟨rfl, hI y (List.mem_of_getElem? hy)⟩, fun j v hv => ?_⟩
    rcases j with _ | j
    · simp at hv
      subst hv
      have hi : i < xs.length := by have := (List.getElem?_eq_some_iff.1 hy).1; omega
      have hc := (hcell i xs[i] (List.getElem?_eq_getElem hi)).1
      have hi2 : i < ys.length := by omega
      have hy2 : ys[i] = y := by rw [List.getElem?_eq_getElem hi2] at hy; exact Option.some.inj hy
      rw [show off + i * eInt.size + 0 = off + i from by simp [eInt]]
      simp [Go.Sort.putCells, Array.getElem?_mapIdx, hc, hi2, hy2]
    · simp at hv

def sortI (xs : List Int) : List Int := xs.mergeSort fun x y => decide (x ≤ y)

theorem sortI_len (xs : List Int) : (sortI xs).length = xs.length := List.length_mergeSort xs

theorem sortI_mem {xs : List Int} {x : Int} : x ∈ sortI xs ↔ x ∈ xs := (List.mergeSort_perm xs _).mem_iff

def shelf_sort_ren : Go.Shelf.Ren := ⟨fun | 53 => 109 | 64 => 107 | 63 => 123 | 78 => 121 | 79 => 122 | 70 => 130 | 71 => 131 | 72 => 132 | 73 => 133 | 74 => 134 | 75 => 135 | 59 => 136 | 76 => 137 | 77 => 138 | 88 => 140 | 89 => 126 | 90 => 127 | 91 => 141 | 92 => 142 | 68 => 124 | 96 => 143 | n => n, fun | 22 => 44 | 23 => 2 | 3 => 3 | 51 => 132 | 0 => 0 | 67 => 146 | 69 => 148 | 4 => 4 | 61 => 139 | 60 => 138 | 44 => 143 | 5 => 5 | 9 => 9 | 75 => 150 | 79 => 154 | 83 => 162 | 84 => 163 | n => n, fun | n => n⟩

theorem shelf_sort : Go.Proofs.SlLaysN.n53 Try.prog shelf_sort_ren := {
  mixed := by kernel_rfl
  f53 := ⟨Try.f109.name, by decide, Try.func109.trans (congrArg some (by kernel_rfl))⟩
  f59 := ⟨Try.f136.name, by decide, Try.func136.trans (congrArg some (by kernel_rfl))⟩
  f63 := ⟨Try.f123.name, by decide, Try.func123.trans (congrArg some (by kernel_rfl))⟩
  f64 := Try.func107.trans (congrArg some (by kernel_rfl))
  f68 := ⟨Try.f124.name, by decide, Try.func124.trans (congrArg some (by kernel_rfl))⟩
  f70 := ⟨Try.f130.name, by decide, Try.func130.trans (congrArg some (by kernel_rfl))⟩
  f71 := ⟨Try.f131.name, by decide, Try.func131.trans (congrArg some (by kernel_rfl))⟩
  f72 := ⟨Try.f132.name, by decide, Try.func132.trans (congrArg some (by kernel_rfl))⟩
  f73 := ⟨Try.f133.name, by decide, Try.func133.trans (congrArg some (by kernel_rfl))⟩
  f74 := ⟨Try.f134.name, by decide, Try.func134.trans (congrArg some (by kernel_rfl))⟩
  f75 := ⟨Try.f135.name, by decide, Try.func135.trans (congrArg some (by kernel_rfl))⟩
  f76 := ⟨Try.f137.name, by decide, Try.func137.trans (congrArg some (by kernel_rfl))⟩
  f77 := ⟨Try.f138.name, by decide, Try.func138.trans (congrArg some (by kernel_rfl))⟩
  f78 := Try.func121.trans (congrArg some (by kernel_rfl))
  f79 := Try.func122.trans (congrArg some (by kernel_rfl))
  f88 := ⟨Try.f140.name, by decide, Try.func140.trans (congrArg some (by kernel_rfl))⟩
  f89 := Try.func126.trans (congrArg some (by kernel_rfl))
  f90 := Try.func127.trans (congrArg some (by kernel_rfl))
  f91 := ⟨Try.f141.name, by decide, Try.func141.trans (congrArg some (by kernel_rfl))⟩
  f92 := ⟨Try.f142.name, by decide, Try.func142.trans (congrArg some (by kernel_rfl))⟩
  f96 := ⟨Try.f143.name, by decide, Try.func143.trans (congrArg some (by kernel_rfl))⟩
  t0 := Try.underlying0
  a0 := Try.isAgg0
  z0 := Try.sizeOf0
  v0 := Try.zeroValue0
  t3 := Try.underlying3
  a3 := Try.isAgg3
  z3 := Try.sizeOf3
  v3 := Try.zeroValue3
  t4 := Try.underlying4
  a4 := Try.isAgg4
  z4 := Try.sizeOf4
  v4 := Try.zeroValue4
  t5 := Try.underlying5
  a5 := Try.isAgg5
  z5 := Try.sizeOf5
  v5 := Try.zeroValue5
  t9 := Try.underlying9
  a9 := Try.isAgg9
  z9 := Try.sizeOf9
  v9 := Try.zeroValue9
  t22 := Try.underlying44
  a22 := Try.isAgg44
  z22 := Try.sizeOf44
  v22 := Try.zeroValue44
  t23 := Try.underlying2
  a23 := Try.isAgg2
  z23 := Try.sizeOf2
  v23 := Try.zeroValue2
  t44 := Try.underlying143
  a44 := Try.isAgg143
  z44 := Try.sizeOf143
  v44 := Try.zeroValue143
  t51 := Try.underlying132
  a51 := Try.isAgg132
  z51 := Try.sizeOf132
  v51 := Try.zeroValue132
  t60 := Try.underlying138
  a60 := Try.isAgg138
  z60 := Try.sizeOf138
  v60 := Try.zeroValue138
  t61 := Try.underlying139
  a61 := Try.isAgg139
  z61 := Try.sizeOf139
  v61 := Try.zeroValue139
  t67 := Try.underlying146
  a67 := Try.isAgg146
  z67 := Try.sizeOf146
  v67 := Try.zeroValue146
  t69 := Try.underlying148
  a69 := Try.isAgg148
  z69 := Try.sizeOf148
  v69 := Try.zeroValue148
  t75 := Try.underlying150
  a75 := Try.isAgg150
  z75 := Try.sizeOf150
  v75 := Try.zeroValue150
  t79 := Try.underlying154
  a79 := Try.isAgg154
  z79 := Try.sizeOf154
  v79 := Try.zeroValue154
  t83 := Try.underlying162
  a83 := Try.isAgg162
  z83 := Try.sizeOf162
  v83 := Try.zeroValue162
  t84 := Try.underlying163
  a84 := Try.isAgg163
  z84 := Try.sizeOf163
  v84 := Try.zeroValue163 }

theorem Sort_Int64 (M : Nat → Prop) (A : Option Addr) (c : Nat) (a : List Int) (S : Nat → Prop) (w : World) (HM : Held M w [rSo eInt S A c a] w) (s0 : a.length ≤ 1000000000) :
    Calls Try.prog 109 #[.slice A a.length c] w fun e w' => ∃ (S' : Nat → Prop), e = .returned (.tuple #[]) ∧ Held M w [rSo eInt S' A c (sortI a)] w' := by
  by_cases hx : a = []
  · subst hx
    refine (show Calls Try.prog 109 #[.slice A 0 c] w _ from AnyG.slices_Sort_int_none shelf_sort A c w).mono ?_
    rintro e w' ⟨rfl, rfl⟩
    exact ⟨S, rfl, by rw [show sortI [] = [] from by simp [sortI]]; exact HM⟩
  · obtain ⟨b, off, rfl, hb, hlt, hH, hI, hput⟩ := so_row (so_of_o (HM.get (i := 0) rfl)) hx
    refine (show Calls Try.prog 109 #[.slice (some ⟨b, off, none⟩) a.length c] w _ from AnyG.slices_Sort_int shelf_sort b off c a w hH hlt (by omega)).mono ?_
    rintro e w' ⟨rfl, n, os, rfl⟩
    obtain ⟨h1, h2⟩ := hput (sortI a) n os (sortI_len a) fun y hy => hI y (sortI_mem.1 hy)
    exact ⟨S, rfl, HM.mut (i := 0) rfl h2 (rSo eInt S (some ⟨b, off, none⟩) c (sortI a)) (oSl h1) fun _ hb => .inl hb⟩

theorem sortI_rise (xs : List Int) : (sortI xs).Pairwise (· ≤ ·) := by
  have := List.pairwise_mergeSort (le := fun x y : Int => decide (x ≤ y)) (fun a b c h1 h2 => by simp at *; omega) (fun a b => by simp; omega) xs
  exact this.imp fun h => by simpa using h

def orderB (xs : List Int) (n : Int) : Bool := decide ((xs.length : Int) = n) && (List.range xs.length).all fun i => decide ((sortI xs)[i]?.getD 0 = (i : Int))

theorem rise_at {ys : List Int} (h : ys.Pairwise (· < ·)) : ∀ (i : Nat) (hi : i < ys.length), (∀ y ∈ ys, 0 ≤ y ∧ y < (ys.length : Int)) → ys[i] = (i : Int) := by
  have up : ∀ (i : Nat) (hi : i < ys.length), (∀ y ∈ ys, 0 ≤ y) → (i : Int) ≤ ys[i] := by
    intro i
    induction i with
    | zero => intro hi h0; exact h0 _ (List.getElem_mem hi)
    | succ i ih =>
      intro hi h0
      have h1 := ih (by omega) h0
      have h2 := List.pairwise_iff_getElem.1 h i (i + 1) (by omega) hi (by omega)
      have h3 : ys[i] < ys[i + 1] := h2
      omega
  have down : ∀ (d i : Nat) (hi : i < ys.length), i + d + 1 = ys.length → (∀ y ∈ ys, y < (ys.length : Int)) → ys[i] ≤ (i : Int) := by
    intro d
    induction d with
    | zero =>
      intro i hi hd h0
      have := h0 _ (List.getElem_mem hi)
      omega
    | succ d ih =>
      intro i hi hd h0
      have h1 := ih (i + 1) (by omega) (by omega) h0
      have h2 := List.pairwise_iff_getElem.1 h i (i + 1) hi (by omega) (by omega)
      have h3 : ys[i] < ys[i + 1] := h2
      omega
  intro i hi h0
  have h1 := up i hi fun y hy => (h0 y hy).1
  have h2 := down (ys.length - 1 - i) i hi (by omega) fun y hy => (h0 y hy).2
  omega

theorem order_iff (xs : List Int) (n : Int) : orderB xs n = true ↔ (xs.length : Int) = n ∧ (∀ x ∈ xs, 0 ≤ x ∧ x < n) ∧ xs.Nodup := by
  have hl := sortI_len xs
  unfold orderB
  simp only [Bool.and_eq_true, decide_eq_true_eq, List.all_eq_true, List.mem_range]
  constructor
  · rintro ⟨h1, h2⟩
    have hat : ∀ (i : Nat) (hi : i < (sortI xs).length), (sortI xs)[i] = (i : Int) := by
      intro i hi
      have := h2 i (by omega)
      rwa [List.getElem?_eq_getElem hi] at this
    refine ⟨h1, fun x hx => ?_, ?_⟩
    · obtain ⟨i, hi, rfl⟩ := List.mem_iff_getElem.1 (sortI_mem.2 hx)
      rw [hat i hi]
      omega
    · refine (List.mergeSort_perm xs (fun x y => decide (x ≤ y))).nodup_iff.1 ?_
      refine List.pairwise_iff_getElem.2 fun i j hi hj hij => ?_
      have e1 := hat i hi
      have e2 := hat j hj
      unfold sortI at e1 e2
      rw [e1, e2]
      omega
  · rintro ⟨h1, h2, h3⟩
    refine ⟨h1, fun i hi => ?_⟩
    have hnd : (sortI xs).Nodup := (List.mergeSort_perm xs (fun x y => decide (x ≤ y))).nodup_iff.2 h3
    have hr : (sortI xs).Pairwise (· < ·) := by
      refine List.pairwise_iff_getElem.2 fun i j hi hj hij => ?_
      have h4 := List.pairwise_iff_getElem.1 (sortI_rise xs) i j hi hj hij
      have h5 : (sortI xs)[i] ≠ (sortI xs)[j] := List.pairwise_iff_getElem.1 hnd i j hi hj hij
      omega
    rw [List.getElem?_eq_getElem (by omega)]
    exact rise_at hr i (by omega) fun y hy => by
      have := h2 y (sortI_mem.1 hy)
      omega

def seenL (n : Nat) (xs : List Int) : List Bool := (List.range n).map fun (i : Nat) => decide ((i : Int) ∈ xs)

theorem seenL_len (n : Nat) (xs : List Int) : (seenL n xs).length = n := by simp [seenL]

theorem seenL_nil (n : Nat) : seenL n [] = List.replicate n false := by
  apply List.ext_getElem
  · simp [seenL]
  · intro i h1 h2; simp [seenL]

theorem seenL_at {n : Nat} {xs : List Int} {x : Int} (h0 : 0 ≤ x) (h : x.toNat < (seenL n xs).length) : (seenL n xs)[x.toNat] = decide (x ∈ xs) := by
  simp only [seenL, List.getElem_map, List.getElem_range]
  rw [show ((x.toNat : Nat) : Int) = x from by omega]

theorem seenL_set {n : Nat} {xs : List Int} {x : Int} (h0 : 0 ≤ x) (h1 : x < n) : seenL n (xs ++ [x]) = (seenL n xs).set x.toNat true := by
  apply List.ext_getElem
  · simp [seenL]
  · intro i hi h2
    rw [List.getElem_set]
    simp only [seenL, List.getElem_map, List.getElem_range, List.mem_append, List.mem_singleton]
    split
    · rename_i e; subst e; simp [show ((x.toNat : Nat) : Int) = x from by omega]
    · rename_i e
      have : ¬ (i : Int) = x := by omega
      simp [this]

theorem order_miss {xs : List Int} {n : Int} {k : Nat} (hk : k < xs.length) (h : ¬ (0 ≤ xs[k] ∧ xs[k] < n)) : orderB xs n = false :=
  Bool.eq_false_iff.2 fun h2 => h (((order_iff xs n).1 h2).2.1 _ (List.getElem_mem hk))

theorem order_dup {xs : List Int} {n : Int} {k : Nat} (hk : k < xs.length) (h : xs[k] ∈ xs.take k) : orderB xs n = false := by
  refine Bool.eq_false_iff.2 fun h2 => ?_
  have h3 := ((order_iff xs n).1 h2).2.2
  rw [← List.take_append_drop k xs, List.drop_eq_getElem_cons hk] at h3
  have h4 := (List.nodup_append.1 h3).2.2
  exact h4 _ h _ List.mem_cons_self rfl

theorem order_len {xs : List Int} {n : Int} (h : ¬ (xs.length : Int) = n) : orderB xs n = false :=
  Bool.eq_false_iff.2 fun h2 => h ((order_iff xs n).1 h2).1

theorem order_all {xs : List Int} {n : Int} (h : (xs.length : Int) = n) (h1 : ∀ x ∈ xs, 0 ≤ x ∧ x < n) (h2 : xs.Nodup) : orderB xs n = true := (order_iff xs n).2 ⟨h, h1, h2⟩

theorem order_srt {xs : List Int} {n : Int} (h : (xs.length : Int) = n) (h1 : ∀ i, i < xs.length → (sortI xs)[i]?.getD 0 = (i : Int)) : orderB xs n = true := by
  unfold orderB
  simp only [Bool.and_eq_true, decide_eq_true_eq, List.all_eq_true, List.mem_range]
  exact ⟨h, h1⟩

theorem order_bad {xs : List Int} {n : Int} {k : Nat} (hk : k < xs.length) (h : ¬ (sortI xs)[k]?.getD 0 = (k : Int)) : orderB xs n = false := by
  refine Bool.eq_false_iff.2 fun h2 => h ?_
  unfold orderB at h2
  simp only [Bool.and_eq_true, decide_eq_true_eq, List.all_eq_true, List.mem_range] at h2
  exact h2.2 k hk

theorem all_succ {p : Nat → Prop} {k : Nat} (h : ∀ i, i < k → p i) (hk : p k) : ∀ i, i < k + 1 → p i := fun i hi => by
  by_cases e : i = k
  · rw [e]; exact hk
  · exact h i (by omega)

theorem nodup_snoc {xs : List Int} {x : Int} (h : xs.Nodup) (h2 : ¬ x ∈ xs) : (xs ++ [x]).Nodup := by
  refine List.nodup_append.2 ⟨h, by simp, ?_⟩
  intro a ha b hb e
  rw [List.mem_singleton.1 hb] at e
  exact h2 (e ▸ ha)

set_option maxRecDepth 100000 in
set_option maxHeartbeats 4000000 in
theorem impl_SortList (A0 : Option Addr) (c0 : Nat) (a0 : (List Int)) (w : World) (h0 : Sl eInt w (Old w) A0 c0 a0) (s0 : a0.length ≤ 1000000000) :
    Calls Try.prog 96 #[.slice A0 a0.length c0] w fun e w' => ∃ (A0' : Option Addr) (c0' : Nat), e = .returned (.slice A0' (sortI a0).length c0') ∧ So eInt w' (Fr w w') A0' c0' (sortI a0) ∧ Below w.heap.size w w' := by
  have l0 := h0.len
  have HH1 := Held.start Nob w
  refine enter (n := 9) Try.func96 rfl rfl rfl fun a_2 HE3 => ?_
  refine wp_seq ?_
  refine rg ?_
  refine pl_x HE3 HH1 (wt0 rfl) (x_assign rfl) rfl rfl fun a_4 HE5 => ?_
  refine wpList_nil ?_
  clear a_2 HE3
  refine nrm ?_
  refine wp_seq ?_
  refine rg ?_
  refine pl_x HE5 HH1 (wt0 rfl) (x_move rfl) rfl rfl fun a_6 HE7 => ?_
  refine pl fun K_8 hK9 => ?_
  refine st_call HE7 (wt0 rfl) rfl rfl rfl en_72 rfl rfl (Clone_Int64 _ _ a0 _ (HH1.old h0) (by omega)) fun e w' hr => ?_
  obtain ⟨Ar21_0, cr21_0, rfl, hor21_0, hbr21⟩ := hr
  obtain ⟨Sr21, HH10⟩ := HH1.newS hbr21 hor21_0
  refine ⟨_, rfl, fun a_11 HE12 => hK9 _ _ ?_⟩
  refine pl_x HE12 HH10 (wt0 rfl) (x_assign rfl) rfl rfl fun a_13 HE14 => ?_
  refine wpList_nil ?_
  clear a_4 HE5 HH1 a_6 HE7 a_11 HE12 hK9 K_8
  refine nrm ?_
  refine wp_seq ?_
  refine rg ?_
  refine pl_x HE14 HH10 (wt0 rfl) (x_move rfl) rfl rfl fun a_15 HE16 => ?_
  refine pl fun K_17 hK18 => ?_
  have HH19 : Held Nob w ([rSo eInt Sr21 Ar21_0 cr21_0 a0] ++ []) _ := HH10
  refine st_call HE16 (wt0 rfl) rfl rfl rfl en_109 rfl rfl (Sort_Int64 (Foot [rSo eInt Sr21 Ar21_0 cr21_0 a0]) _ _ a0 _ _ HH19.focus (by omega)) fun e w' hr => ?_
  obtain ⟨Sr22_0, rfl, hbr22⟩ := hr
  have HH20 := HH19.back hbr22
  clear hbr22
  have HH21 : Held Nob w ([rSo eInt Sr22_0 Ar21_0 cr21_0 (sortI a0)] ++ []) _ := HH20
  have hAr22_0 := sortI_len a0
  refine ⟨_, rfl, fun a_22 HE23 => hK18 _ _ ?_⟩
  refine wpList_nil ?_
  clear a_13 HE14 HH10 HH19 HH20 a_15 HE16 hK18 K_17
  refine nrm ?_
  refine wp_seq ?_
  refine rg ?_
  refine pl_x HE23 HH21 (wt0 rfl) (x_move rfl) rfl rfl fun a_24 HE25 => ?_
  refine pl_x HE25 HH21 (wt0 rfl) (x_assign rfl) rfl rfl fun a_26 HE27 => ?_
  refine wpList_nil ?_
  clear a_22 HE23 a_24 HE25
  refine nrm ?_
  refine wp_ret ?_
  refine ret1 HE27 rfl (rv_tmp rfl) ?_
  have hF : (sortI a0) = (sortI a0) := by
    rfl
  exact ⟨Ar21_0, cr21_0, by first | (rw [hF] <;> rfl) | rfl | (rw [hF]; simp only [Ending.returned.injEq, Value.slice.injEq, true_and, and_true]; first | omega | (simp; done)) | (rw [hF]; simp; omega), by rw [hF]; exact (HH21.so (i := 0) rfl), HH21.below⟩

set_option maxRecDepth 100000 in
set_option maxHeartbeats 4000000 in
theorem impl_isOrder (A0 : Option Addr) (c0 : Nat) (a0 : (List Int)) (a1 : Int) (w : World) (h0 : Sl eInt w (Old w) A0 c0 a0) (s0 : -1000 ≤ a1 ∧ a1 ≤ 1000) :
    Calls Try.prog 61 #[.slice A0 a0.length c0, .int .i64 a1] w fun e w' => e = .returned (.bool (orderB a0 a1)) ∧ Below w.heap.size w w' := by
  have l0 := h0.len
  have HH1 := Held.start Nob w
  refine enter (n := 23) Try.func61 rfl rfl rfl fun a_2 HE3 => ?_
  refine wp_seq ?_
  refine rg ?_
  refine pl_x HE3 HH1 (wt0 rfl) (x_assign rfl) rfl rfl fun a_4 HE5 => ?_
  refine wpList_nil ?_
  clear a_2 HE3
  refine nrm ?_
  refine wp_seq ?_
  refine wp_seq ?_
  refine rg ?_
  refine pl_x HE5 HH1 (wt0 rfl) (x_move rfl) rfl rfl fun a_6 HE7 => ?_
  refine pl fun K_8 hK9 => ?_
  refine st_call HE7 (wt0 rfl) rfl rfl rfl en_95 rfl rfl (impl_size_Int64 _ _ _ _) fun e w' hr => ?_
  obtain ⟨rfl, rfl⟩ := hr
  refine ⟨_, rfl, fun a_10 HE11 => hK9 _ _ ?_⟩
  refine pl_x HE11 HH1 (wt0 rfl) (x_move rfl) rfl rfl fun a_12 HE13 => ?_
  refine pl_x HE13 HH1 (wt0 rfl) (x_neq rfl rfl) rfl rfl fun a_14 HE15 => ?_
  refine wpList_nil ?_
  clear a_4 HE5 a_6 HE7 a_10 HE11 a_12 HE13 hK9 K_8
  refine nrm ?_
  refine cnd_ne HE15 rfl (fun hc22 => ?_) (fun hc22 => ?_)
  · refine wp_seq ?_
    refine rg ?_
    refine pl_x HE15 HH1 (wt0 rfl) (x_assign rfl) rfl rfl fun a_16 HE17 => ?_
    refine wpList_nil ?_
    clear a_14 HE15
    refine nrm ?_
    refine wp_ret ?_
    refine (thn_ret ?_)
    refine ret1 HE17 rfl (rv_tmp rfl) ?_
    have hF : (orderB a0 a1) = false := by
      first | exact order_len (by omega) | exact order_bad (k := k) (by omega) (by rw [List.getElem?_eq_getElem (by omega), ← xy0, Option.getD_some]; omega) | exact order_srt (by omega) (fun i hi => p0_1 i (by omega))
    exact ⟨by first | (rw [hF] <;> rfl) | rfl | (rw [hF]; simp only [Ending.returned.injEq, Value.slice.injEq, true_and, and_true]; first | omega | (simp; done)) | (rw [hF]; simp; omega), HH1.below⟩
  · refine wp_skip ?_
    refine nrm ?_
    refine wp_seq ?_
    refine wp_seq ?_
    refine rg ?_
    refine pl_x HE15 HH1 (wt0 rfl) (x_move rfl) rfl rfl fun a_18 HE19 => ?_
    refine pl fun K_20 hK21 => ?_
    refine st_call HE19 (wt0 rfl) rfl rfl rfl en_96 rfl rfl (impl_SortList _ _ a0 _ (HH1.old h0) (by omega)) fun e w' hr => ?_
    obtain ⟨Ar23_0, cr23_0, rfl, hor23_0, hbr23⟩ := hr
    obtain ⟨Sr23, HH22⟩ := HH1.newS hbr23 hor23_0
    refine ⟨_, rfl, fun a_23 HE24 => hK21 _ _ ?_⟩
    refine pl_x HE24 HH22 (wt0 rfl) (x_len Try.underlying44 rfl) rfl rfl fun a_25 HE26 => ?_
    refine pl_x HE26 HH22 (wt0 rfl) (x_move rfl) rfl rfl fun a_27 HE28 => ?_
    refine wpList_nil ?_
    clear a_14 HE15 HH1 a_18 HE19 a_23 HE24 a_25 HE26 hK21 K_20
    refine nrm ?_
    refine wp_block ?_
    refine lp (fun m a w' => ∃ (k : Nat), m = a0.length - k ∧ Env 23 [(14, .int .i64 (k : Int)), (12, .slice Ar23_0 ((sortI a0).length) cr23_0), (13, .int .i64 (((sortI a0).length : Int)))] a ∧ Held Nob w [rSo eInt Sr23 Ar23_0 cr23_0 (sortI a0)] w' ∧ (k ≤ a0.length) ∧ (∀ i, i < k → (sortI a0)[i]?.getD 0 = (i : Int))) (a0.length - (0)) ?_ ?_
    · exact ⟨0, rfl, HE28.sub ⟨(lkI rfl (by first | rfl | omega | (simp [hc22]; done))), rfl, rfl, trivial⟩, (HH22.sel [0] (by decide) rfl), (by first | omega | assumption | (simp; done) | simp_all), (by intro i hi; omega)⟩
    · rintro m a_29 w' ⟨k, rfl, HE30, HH31, p24_0, p24_1⟩
      have hl0 := sortI_len a0
      refine wp_seq ?_
      refine rg ?_
      refine pl_x HE30 HH31 (wt0 rfl) (x_lss rfl rfl) rfl rfl fun a_32 HE33 => ?_
      refine wpList_nil ?_
      clear a_27 HE28 HH22 a_29 HE30
      refine nrm ?_
      refine wp_seq ?_
      refine cnd_d HE33 rfl (fun hc25 => ?_) (fun hc25 => ?_)
      · refine wp_skip ?_
        refine nrm ?_
        refine wp_seq ?_
        refine wp_block ?_
        refine wp_seq ?_
        refine rg ?_
        refine pl_x HE33 HH31 (wt0 rfl) (x_move rfl) rfl rfl fun a_34 HE35 => ?_
        have ke26 : k < (sortI a0).length := by omega
        obtain ⟨be26, fe26, rfl⟩ := el_own HH31 (i := 0) rfl ke26
        refine pl_x HE35 HH31 (wt0 rfl) (x_indexAddr ts_44 rfl rfl rfl rfl ke26) rfl rfl fun a_36 HE37 => ?_
        obtain ⟨y27, xy27⟩ : ∃ y_, y_ = (sortI a0)[k]'(by first | exact ke26 | (simp only [List.length_set]; exact ke26) | omega | (simp only [List.length_set]; omega) | (simp; omega)) := ⟨_, rfl⟩
        have iy27 : I64 y27 := by rw [xy27]; exact i_ownI HH31 0 rfl _
        have jy27 := iy27; unfold I64 at jy27
        refine pl_x HE37 HH31 (wt0 rfl) (x_load1 tv_2 rfl (c_ownV 0 rfl (by first | exact ke26 | (simp only [List.length_set]; exact ke26) | omega | (simp only [List.length_set]; omega) | (simp; omega)) xy27.symm)) rfl rfl fun a_38 HE39 => ?_
        refine pl_x HE39 HH31 (wt0 rfl) (x_assign rfl) rfl rfl fun a_40 HE41 => ?_
        refine pl_x HE41 HH31 (wt0 rfl) (x_assign rfl) rfl rfl fun a_42 HE43 => ?_
        refine wpList_nil ?_
        clear a_32 HE33 a_34 HE35 a_36 HE37 a_38 HE39 a_40 HE41
        refine nrm ?_
        refine wp_seq ?_
        refine rg ?_
        refine pl_x HE43 HH31 (wt0 rfl) (x_move rfl) rfl rfl fun a_44 HE45 => ?_
        refine pl_x HE45 HH31 (wt0 rfl) (x_move rfl) rfl rfl fun a_46 HE47 => ?_
        refine pl_x HE47 HH31 (wt0 rfl) (x_neq rfl rfl) rfl rfl fun a_48 HE49 => ?_
        refine wpList_nil ?_
        clear a_42 HE43 a_44 HE45 a_46 HE47
        refine nrm ?_
        refine cnd_ne HE49 rfl (fun hc28 => ?_) (fun hc28 => ?_)
        · refine wp_seq ?_
          refine rg ?_
          refine pl_x HE49 HH31 (wt0 rfl) (x_assign rfl) rfl rfl fun a_50 HE51 => ?_
          refine wpList_nil ?_
          clear a_48 HE49
          refine nrm ?_
          refine wp_ret ?_
          refine (blk_ret (thn_ret (thn_ret (blk_ret (thn_ret ?_)))))
          refine ret1 HE51 rfl (rv_tmp rfl) ?_
          have hF : (orderB a0 a1) = false := by
            first | exact order_len (by omega) | exact order_bad (k := k) (by omega) (by rw [List.getElem?_eq_getElem (by omega), ← xy27, Option.getD_some]; omega) | exact order_srt (by omega) (fun i hi => p24_1 i (by omega))
          exact ⟨by first | (rw [hF] <;> rfl) | rfl | (rw [hF]; simp only [Ending.returned.injEq, Value.slice.injEq, true_and, and_true]; first | omega | (simp; done)) | (rw [hF]; simp; omega), HH31.below⟩
        · refine wp_skip ?_
          refine blk_n ?_
          refine nrm ?_
          refine rg ?_
          refine pl_x HE49 HH31 (wt0 rfl) (x_add rfl rfl (by exact ⟨by omega, by omega⟩)) rfl rfl fun a_52 HE53 => ?_
          refine pl_x HE53 HH31 (wt0 rfl) (x_move rfl) rfl rfl fun a_54 HE55 => ?_
          refine wpList_nil ?_
          clear a_48 HE49 a_52 HE53
          exact nrm ⟨a0.length - (k + 1), (by omega), k + 1, rfl, HE55.sub ⟨(lkI rfl (by first | rfl | omega | (simp [hc22, p24_0, p24_1, hc25, xy27, hc28]; done))), rfl, rfl, trivial⟩, (HH31.sel [0] (by decide) rfl), (by first | omega | assumption | (simp; done) | simp_all), (by exact all_succ p24_1 (by rw [List.getElem?_eq_getElem (by omega), ← xy27, Option.getD_some]; omega))⟩
      · refine wp_exit ?_
        refine (thn_exit (thn_exit (blk_hit ?_)))
        refine nrm ?_
        refine wp_seq ?_
        refine rg ?_
        refine pl_x HE33 HH31 (wt0 rfl) (x_assign rfl) rfl rfl fun a_56 HE57 => ?_
        refine wpList_nil ?_
        clear a_32 HE33
        refine nrm ?_
        refine wp_ret ?_
        refine ret1 HE57 rfl (rv_tmp rfl) ?_
        have hF : (orderB a0 a1) = true := by
          first | exact order_len (by omega) | exact order_bad (k := k) (by omega) (by rw [List.getElem?_eq_getElem (by omega), ← xy0, Option.getD_some]; omega) | exact order_srt (by omega) (fun i hi => p24_1 i (by omega))
        exact ⟨by first | (rw [hF] <;> rfl) | rfl | (rw [hF]; simp only [Ending.returned.injEq, Value.slice.injEq, true_and, and_true]; first | omega | (simp; done)) | (rw [hF]; simp; omega), HH31.below⟩

set_option maxRecDepth 100000 in
set_option maxHeartbeats 4000000 in
theorem spec_l05Order (A0 : Option Addr) (c0 : Nat) (a0 : (List Int)) (a1 : Int) (w : World) (h0 : Sl eInt w (Old w) A0 c0 a0) (s0 : -1000 ≤ a1 ∧ a1 ≤ 1000) :
    Calls Try.prog 56 #[.slice A0 a0.length c0, .int .i64 a1] w fun e w' => e = .returned (.bool (orderB a0 a1)) ∧ Below w.heap.size w w' := by
  have l0 := h0.len
  have HH1 := Held.start Nob w
  refine enter (n := 43) Try.func56 rfl rfl rfl fun a_2 HE3 => ?_
  refine wp_seq ?_
  refine rg ?_
  refine pl_x HE3 HH1 (wt0 rfl) (x_assign rfl) rfl rfl fun a_4 HE5 => ?_
  refine wpList_nil ?_
  clear a_2 HE3
  refine nrm ?_
  refine wp_seq ?_
  refine wp_seq ?_
  refine rg ?_
  refine pl_x HE5 HH1 (wt0 rfl) (x_move rfl) rfl rfl fun a_6 HE7 => ?_
  refine pl_x HE7 HH1 (wt0 rfl) (x_len Try.underlying44 rfl) rfl rfl fun a_8 HE9 => ?_
  refine pl_x HE9 HH1 (wt0 rfl) (x_move rfl) rfl rfl fun a_10 HE11 => ?_
  refine pl_x HE11 HH1 (wt0 rfl) (x_neq rfl rfl) rfl rfl fun a_12 HE13 => ?_
  refine wpList_nil ?_
  clear a_4 HE5 a_6 HE7 a_8 HE9 a_10 HE11
  refine nrm ?_
  refine cnd_ne HE13 rfl (fun hc21 => ?_) (fun hc21 => ?_)
  · refine wp_seq ?_
    refine rg ?_
    refine pl_x HE13 HH1 (wt0 rfl) (x_assign rfl) rfl rfl fun a_14 HE15 => ?_
    refine wpList_nil ?_
    clear a_12 HE13
    refine nrm ?_
    refine wp_ret ?_
    refine (thn_ret ?_)
    refine ret1 HE15 rfl (rv_tmp rfl) ?_
    have hF : (orderB a0 a1) = false := by
      first | exact order_len (by omega) | exact order_miss (by omega : k < a0.length) (by rw [← xe0]; omega) | exact order_dup (by omega : k < a0.length) (by rw [← xe0]; exact hin) | exact order_all (by omega) (by have := p0_2; rwa [List.take_of_length_le (by omega)] at this) (by have := p0_1; rwa [List.take_of_length_le (by omega)] at this)
    exact ⟨by first | (rw [hF] <;> rfl) | rfl | (rw [hF]; simp only [Ending.returned.injEq, Value.slice.injEq, true_and, and_true]; first | omega | (simp; done)) | (rw [hF]; simp; omega), HH1.below⟩
  · refine wp_skip ?_
    refine nrm ?_
    refine wp_seq ?_
    refine rg ?_
    refine pl_x HE13 HH1 (wt0 rfl) (x_move rfl) rfl rfl fun a_16 HE17 => ?_
    refine pl_x HE17 HH1 (wt0 rfl) (x_len Try.underlying44 rfl) rfl rfl fun a_18 HE19 => ?_
    refine pl fun K_20 hK21 => ?_
    refine st_make (E := eBool) (x := false) (k := a0.length) HE19 HH1 ts_115 tv_4 rfl (fun _ => oB) rfl rfl rfl rfl (by omega) (by omega) (wt0 rfl) rfl fun q22 a_22 w' HE23 HH24 => hK21 _ _ ?_
    have hlq22 : (List.replicate a0.length false).length = a0.length := List.length_replicate
    refine pl_x HE23 HH24 (wt0 rfl) (x_assign rfl) rfl rfl fun a_25 HE26 => ?_
    refine wpList_nil ?_
    clear a_12 HE13 a_16 HE17 a_18 HE19 HH1 a_22 HE23 hK21 K_20
    refine nrm ?_
    refine wp_seq ?_
    refine wp_seq ?_
    refine rg ?_
    refine pl_x HE26 HH24 (wt0 rfl) (x_assign rfl) rfl rfl fun a_27 HE28 => ?_
    refine wpList_nil ?_
    clear a_25 HE26
    refine nrm ?_
    refine wp_block ?_
    refine lp (fun m a w' => ∃ (k : Nat), m = a0.length - k ∧ Env 43 [(6, .int .i64 (k : Int)), (0, .slice A0 (a0.length) c0), (1, .int .i64 (a1)), (5, .slice (some ⟨q22, 0, none⟩) ((List.replicate a0.length false).length) a0.length)] a ∧ Held Nob w [rSo eBool (fun b => b = q22) (some ⟨q22, 0, none⟩) a0.length (seenL a0.length (a0.take k))] w' ∧ (k ≤ a0.length) ∧ ((a0.take k).Nodup) ∧ (∀ x ∈ a0.take k, 0 ≤ x ∧ x < a1)) (a0.length - (0)) ?_ ?_
    · have E23 : seenL a0.length (a0.take 0) = (List.replicate a0.length false) := by
        rw [List.take_zero, seenL_nil]
      exact ⟨0, rfl, HE28.sub ⟨(lkI rfl (by first | rfl | omega | (simp [hc21]; done))), rfl, rfl, rfl, trivial⟩, ((HH24.sel [0] (by decide) rfl).to (by first | rfl | (rw [E23]; done) | (rw [E23]; rfl) | (simp only [E23]; done) | (simp only [E23]; rfl) | (rw [E23]; simp only [List.length_set]; done))), (by first | omega | assumption | (simp; done) | simp_all), (by simp), (by simp)⟩
    · rintro m a_29 w' ⟨k, rfl, HE30, HH31, p24_0, p24_1, p24_2⟩
      have hl0 := seenL_len a0.length (a0.take k)
      refine wp_seq ?_
      refine wp_seq ?_
      refine rg ?_
      refine pl_x HE30 HH31 (wt0 rfl) (x_move rfl) rfl rfl fun a_32 HE33 => ?_
      refine pl_x HE33 HH31 (wt0 rfl) (x_move rfl) rfl rfl fun a_34 HE35 => ?_
      refine pl_x HE35 HH31 (wt0 rfl) (x_len Try.underlying44 rfl) rfl rfl fun a_36 HE37 => ?_
      refine pl_x HE37 HH31 (wt0 rfl) (x_lss rfl rfl) rfl rfl fun a_38 HE39 => ?_
      refine wpList_nil ?_
      clear a_27 HE28 HH24 a_29 HE30 a_32 HE33 a_34 HE35 a_36 HE37
      refine nrm ?_
      refine cnd_d HE39 rfl (fun hc25 => ?_) (fun hc25 => ?_)
      · refine wp_skip ?_
        refine nrm ?_
        refine wp_seq ?_
        refine wp_block ?_
        refine wp_seq ?_
        refine wp_seq ?_
        refine rg ?_
        refine pl_x HE39 HH31 (wt0 rfl) (x_move rfl) rfl rfl fun a_40 HE41 => ?_
        refine pl_x HE41 HH31 (wt0 rfl) (x_move rfl) rfl rfl fun a_42 HE43 => ?_
        have ke26 : k < a0.length := by omega
        obtain ⟨be26, fe26, ese26, Ae26, Re26, De26⟩ := el_old h0 ke26
        obtain ⟨e26, xe26⟩ : ∃ x_, x_ = a0[k] := ⟨_, rfl⟩
        rw [← xe26] at Re26
        have Qe26 := Re26
        obtain ⟨rfl, ie26⟩ := Re26
        have je26 := ie26; unfold I64 at je26
        refine pl_x HE43 HH31 (wt0 rfl) (x_indexAddr ts_44 rfl rfl Ae26 rfl ke26) rfl rfl fun a_44 HE45 => ?_
        refine pl_x HE45 HH31 (wt0 rfl) (x_load1 tv_2 rfl (c_old (De26 0 _ rfl))) rfl rfl fun a_46 HE47 => ?_
        refine pl_x HE47 HH31 (wt0 rfl) (x_move rfl) rfl rfl fun a_48 HE49 => ?_
        refine pl_x HE49 HH31 (wt0 rfl) (x_sub rfl rfl (by exact ⟨by omega, by omega⟩)) rfl rfl fun a_50 HE51 => ?_
        refine pl fun K_52 hK53 => ?_
        refine st_call HE51 (wt0 rfl) rfl rfl rfl en_39 rfl rfl (spec_l00In e26 0 (a1 - 1) _ ) fun e w' hr => ?_
        obtain ⟨rfl, rfl⟩ := hr
        refine ⟨_, rfl, fun a_54 HE55 => hK53 _ _ ?_⟩
        refine pl_x HE55 HH31 (wt0 rfl) (x_not rfl) rfl rfl fun a_56 HE57 => ?_
        refine pl_x HE57 HH31 (wt0 rfl) (x_move rfl) rfl rfl fun a_58 HE59 => ?_
        rcases Bool.eq_false_or_eq_true ((withinB e26 0 (a1 - 1))) with hc28 | hc28
        · have hwb := withinB_true.1 hc28
          refine pl_x HE59 HH31 (wtT HE59 rfl rfl rfl (not_f hc28)) (x_move rfl) rfl rfl fun a_60 HE61 => ?_
          refine pl_x HE61 HH31 (wtT HE61 rfl rfl rfl (not_f hc28)) (x_move rfl) rfl rfl fun a_62 HE63 => ?_
          refine pl_x HE63 HH31 (wtT HE63 rfl rfl rfl (not_f hc28)) (x_move rfl) rfl rfl fun a_64 HE65 => ?_
          refine pl_x HE65 HH31 (wtT HE65 rfl rfl rfl (not_f hc28)) (x_indexAddr ts_44 rfl rfl Ae26 rfl ke26) rfl rfl fun a_66 HE67 => ?_
          refine pl_x HE67 HH31 (wtT HE67 rfl rfl rfl (not_f hc28)) (x_load1 tv_2 rfl (c_old (De26 0 _ rfl))) rfl rfl fun a_68 HE69 => ?_
          have ke29 : (e26).toNat < (List.replicate a0.length false).length := by omega
          refine pl_x HE69 HH31 (wtT HE69 rfl rfl rfl (not_f hc28)) (x_indexAddr ts_115 rfl rfl rfl (by omega) ke29) rfl rfl fun a_70 HE71 => ?_
          obtain ⟨y30, xy30⟩ : ∃ y_, y_ = (seenL a0.length (a0.take k))[(e26).toNat]'(by first | exact ke29 | (simp only [List.length_set]; exact ke29) | omega | (simp only [List.length_set]; omega) | (simp; omega)) := ⟨_, rfl⟩
          have hseen : y30 = decide (e26 ∈ a0.take k) := by rw [xy30]; exact seenL_at (by omega) _
          refine pl_x HE71 HH31 (wtT HE71 rfl rfl rfl (not_f hc28)) (x_load1 tv_4 rfl (c_ownBV 0 rfl (by first | exact ke29 | (simp only [List.length_set]; exact ke29) | omega | (simp only [List.length_set]; omega) | (simp; omega)) xy30.symm)) rfl rfl fun a_72 HE73 => ?_
          refine pl_x HE73 HH31 (wt0 rfl) (x_pickF rfl (not_f hc28) rfl) rfl rfl fun a_74 HE75 => ?_
          refine wpList_nil ?_
          clear a_38 HE39 a_40 HE41 a_42 HE43 a_44 HE45 a_46 HE47 a_48 HE49 a_50 HE51 a_54 HE55 a_56 HE57 a_58 HE59 a_60 HE61 a_62 HE63 a_64 HE65 a_66 HE67 a_68 HE69 a_70 HE71 a_72 HE73 hK53 K_52
          refine nrm ?_
          refine cnd_b HE75 rfl (fun hc31 => ?_) (fun hc31 => ?_)
          · have hin : e26 ∈ a0.take k := by rw [hseen] at hc31; simpa using hc31
            refine wp_seq ?_
            refine rg ?_
            refine pl_x HE75 HH31 (wt0 rfl) (x_assign rfl) rfl rfl fun a_76 HE77 => ?_
            refine wpList_nil ?_
            clear a_74 HE75
            refine nrm ?_
            refine wp_ret ?_
            refine (thn_ret (blk_ret (thn_ret (thn_ret (blk_ret (thn_ret ?_))))))
            refine ret1 HE77 rfl (rv_tmp rfl) ?_
            have hF : (orderB a0 a1) = false := by
              first | exact order_len (by omega) | exact order_miss (by omega : k < a0.length) (by rw [← xe26]; omega) | exact order_dup (by omega : k < a0.length) (by rw [← xe26]; exact hin) | exact order_all (by omega) (by have := p24_2; rwa [List.take_of_length_le (by omega)] at this) (by have := p24_1; rwa [List.take_of_length_le (by omega)] at this)
            exact ⟨by first | (rw [hF] <;> rfl) | rfl | (rw [hF]; simp only [Ending.returned.injEq, Value.slice.injEq, true_and, and_true]; first | omega | (simp; done)) | (rw [hF]; simp; omega), HH31.below⟩
          · have hnot : ¬ e26 ∈ a0.take k := by rw [hseen] at hc31; simpa using hc31
            refine wp_skip ?_
            refine nrm ?_
            refine rg ?_
            refine pl_x HE75 HH31 (wt0 rfl) (x_move rfl) rfl rfl fun a_78 HE79 => ?_
            refine pl_x HE79 HH31 (wt0 rfl) (x_move rfl) rfl rfl fun a_80 HE81 => ?_
            refine pl_x HE81 HH31 (wt0 rfl) (x_move rfl) rfl rfl fun a_82 HE83 => ?_
            refine pl_x HE83 HH31 (wt0 rfl) (x_indexAddr ts_44 rfl rfl Ae26 rfl ke26) rfl rfl fun a_84 HE85 => ?_
            refine pl_x HE85 HH31 (wt0 rfl) (x_load1 tv_2 rfl (c_old (De26 0 _ rfl))) rfl rfl fun a_86 HE87 => ?_
            have ke32 : (e26).toNat < (List.replicate a0.length false).length := by omega
            refine pl_x HE87 HH31 (wt0 rfl) (x_indexAddr ts_115 rfl rfl rfl (by omega) ke32) rfl rfl fun a_88 HE89 => ?_
            refine pl fun K_90 hK91 => ?_
            refine st_storeB 0 HE89 HH31 tv_4 rfl rfl rfl (by first | exact ke32 | (simp only [List.length_set]; exact ke32) | omega | (simp only [List.length_set]; omega) | (simp; omega)) (wt0 rfl) fun w' HH92 => hK91 _ _ ?_
            refine wpList_nil ?_
            clear a_74 HE75 a_78 HE79 a_80 HE81 a_82 HE83 a_84 HE85 a_86 HE87 HH31 hK91 K_90
            refine blk_n ?_
            refine nrm ?_
            refine rg ?_
            refine pl_x HE89 HH92 (wt0 rfl) (x_move rfl) rfl rfl fun a_93 HE94 => ?_
            refine pl_x HE94 HH92 (wt0 rfl) (x_add rfl rfl (by exact ⟨by omega, by omega⟩)) rfl rfl fun a_95 HE96 => ?_
            refine pl_x HE96 HH92 (wt0 rfl) (x_assign rfl) rfl rfl fun a_97 HE98 => ?_
            refine wpList_nil ?_
            clear a_88 HE89 a_93 HE94 a_95 HE96
            have E33 : seenL a0.length (a0.take (k + 1)) = ((seenL a0.length (a0.take k)).set ((e26).toNat) true) := by
              rw [List.take_succ_eq_append_getElem (by omega), ← xe26, seenL_set (by omega) (by omega)]
            exact nrm ⟨a0.length - (k + 1), (by omega), k + 1, rfl, HE98.sub ⟨(lkI rfl (by first | rfl | omega | (simp [hc21, p24_0, p24_1, p24_2, hc25, xe26, hc28, xy30, hc31]; done))), rfl, rfl, rfl, trivial⟩, ((HH92.sel [0] (by decide) rfl).to (by first | rfl | (rw [E33]; done) | (rw [E33]; rfl) | (simp only [E33]; done) | (simp only [E33]; rfl) | (rw [E33]; simp only [List.length_set]; done))), (by first | omega | assumption | (simp; done) | simp_all), (by rw [List.take_succ_eq_append_getElem (by omega), ← xe26]; exact nodup_snoc p24_1 hnot), (by rw [List.take_succ_eq_append_getElem (by omega), ← xe26]; intro x hx; rcases List.mem_append.1 hx with hx | hx; exact p24_2 x hx; rw [List.mem_singleton.1 hx]; omega)⟩
        · have hwb : ¬ (0 ≤ e26 ∧ e26 ≤ a1 - 1) := fun hq => by rw [withinB_true.2 hq] at hc28; cases hc28
          refine pl_no HE59 (wtF HE59 rfl rfl rfl (not_t hc28)) rfl rfl fun a_99 HE100 => ?_
          refine pl_no HE100 (wtF HE100 rfl rfl rfl (not_t hc28)) rfl rfl fun a_101 HE102 => ?_
          refine pl_no HE102 (wtF HE102 rfl rfl rfl (not_t hc28)) rfl rfl fun a_103 HE104 => ?_
          refine pl_no HE104 (wtF HE104 rfl rfl rfl (not_t hc28)) rfl rfl fun a_105 HE106 => ?_
          refine pl_no HE106 (wtF HE106 rfl rfl rfl (not_t hc28)) rfl rfl fun a_107 HE108 => ?_
          refine pl_no HE108 (wtF HE108 rfl rfl rfl (not_t hc28)) rfl rfl fun a_109 HE110 => ?_
          refine pl_no HE110 (wtF HE110 rfl rfl rfl (not_t hc28)) rfl rfl fun a_111 HE112 => ?_
          refine pl_x HE112 HH31 (wt0 rfl) (x_pickT rfl (not_t hc28) rfl) rfl rfl fun a_113 HE114 => ?_
          refine wpList_nil ?_
          clear a_38 HE39 a_40 HE41 a_42 HE43 a_44 HE45 a_46 HE47 a_48 HE49 a_50 HE51 a_54 HE55 a_56 HE57 a_58 HE59 a_99 HE100 a_101 HE102 a_103 HE104 a_105 HE106 a_107 HE108 a_109 HE110 a_111 HE112 hK53 K_52
          refine nrm ?_
          refine cndT HE114 rfl rfl ?_
          refine wp_seq ?_
          refine rg ?_
          refine pl_x HE114 HH31 (wt0 rfl) (x_assign rfl) rfl rfl fun a_115 HE116 => ?_
          refine wpList_nil ?_
          clear a_113 HE114
          refine nrm ?_
          refine wp_ret ?_
          refine (thn_ret (blk_ret (thn_ret (thn_ret (blk_ret (thn_ret ?_))))))
          refine ret1 HE116 rfl (rv_tmp rfl) ?_
          have hF : (orderB a0 a1) = false := by
            first | exact order_len (by omega) | exact order_miss (by omega : k < a0.length) (by rw [← xe26]; omega) | exact order_dup (by omega : k < a0.length) (by rw [← xe26]; exact hin) | exact order_all (by omega) (by have := p24_2; rwa [List.take_of_length_le (by omega)] at this) (by have := p24_1; rwa [List.take_of_length_le (by omega)] at this)
          exact ⟨by first | (rw [hF] <;> rfl) | rfl | (rw [hF]; simp only [Ending.returned.injEq, Value.slice.injEq, true_and, and_true]; first | omega | (simp; done)) | (rw [hF]; simp; omega), HH31.below⟩
      · refine wp_exit ?_
        refine (thn_exit (thn_exit (blk_hit ?_)))
        refine nrm ?_
        refine wp_seq ?_
        refine rg ?_
        refine pl_x HE39 HH31 (wt0 rfl) (x_assign rfl) rfl rfl fun a_117 HE118 => ?_
        refine wpList_nil ?_
        clear a_38 HE39
        refine nrm ?_
        refine wp_ret ?_
        refine ret1 HE118 rfl (rv_tmp rfl) ?_
        have hF : (orderB a0 a1) = true := by
          first | exact order_len (by omega) | exact order_miss (by omega : k < a0.length) (by rw [← xe0]; omega) | exact order_dup (by omega : k < a0.length) (by rw [← xe0]; exact hin) | exact order_all (by omega) (by have := p24_2; rwa [List.take_of_length_le (by omega)] at this) (by have := p24_1; rwa [List.take_of_length_le (by omega)] at this)
        exact ⟨by first | (rw [hF] <;> rfl) | rfl | (rw [hF]; simp only [Ending.returned.injEq, Value.slice.injEq, true_and, and_true]; first | omega | (simp; done)) | (rw [hF]; simp; omega), HH31.below⟩

theorem Sl.i64 {w : World} {S : Nat → Prop} {A : Option Addr} {c : Nat} {xs : List Int} (h : Sl eInt w S A c xs) : ∀ x ∈ xs, -9223372036854775808 ≤ x ∧ x ≤ 9223372036854775807 := by
  intro x hx
  obtain ⟨i, hi⟩ := List.mem_iff_getElem?.1 hx
  obtain ⟨b, off, _, _, hc⟩ := h.2.2 (fun e => by rw [e] at hx; cases hx)
  obtain ⟨es, ⟨_, h1⟩, _⟩ := hc i x hi
  exact h1

theorem eqg_Rule : Try.prog.eqGuardType Try.prog.depth 114 = false := by kernel_rfl

theorem eqr_Rule (w : World) (a b c a' b' c' : Int) : (Op.equalIn 10000 114 (.agg #[.int .i64 a, .int .i64 b, .int .i64 c]) (.agg #[.int .i64 a', .int .i64 b', .int .i64 c'])).run Try.prog w = .ok ((a == a') && ((b == b') && (c == c'))) w := by
  have hS : Try.prog.underlying 114 = some (.struct (Try.prog.fieldsOf 114)) := by kernel_rfl
  have hp : Try.prog.stoodInHeld 114 = false := by kernel_rfl
  have h2 : Try.prog.underlying 2 = some (.int .i64) := Try.underlying2
  rw [run_equalIn_struct w 9999 114 _ _ hS hp]
  simp only [Program.fieldsOf, Try.underlying114]
  simp [Op.eqFields, part, Sem.run_bind, run_equalIn_int, h2]
  by_cases h1 : a = a' <;> by_cases h3 : b = b' <;> by_cases h4 : c = c' <;> simp [h1, h3, h4]

def noRl : tRule := (0, 0, -1)

def isRl (r : tRule) : Bool := !((r.1 == noRl.1) && ((r.2.1 == noRl.2.1) && (r.2.2 == noRl.2.2)))

def ruleB (m1 m2 : Int) (r : tRule) : Bool := if isRl r = true then withinB r.1 0 (m1 - 1) && ((r.2.1 == -1) || (r.2.1 == 1)) && withinB r.2.2 0 (m2 - 1) else true

def validMach (m : tMachine) : Bool := withinB m.1 2 6 && withinB m.2.1 1 1000 && ((m.2.2.length : Int) == m.2.1 * m.1) && !m.2.2.any (fun r => !ruleB m.1 m.2.1 r)

theorem mul_bd2 {a b : Int} (h1 : 2 ≤ a ∧ a ≤ 6) (h2 : 1 ≤ b ∧ b ≤ 1000) : (0 ≤ b * a ∧ b * a ≤ 6000) ∧ a * b = b * a := by
  refine ⟨⟨Int.mul_nonneg (by omega) (by omega), ?_⟩, Int.mul_comm _ _⟩
  have := Int.mul_le_mul h2.2 h1.2 (by omega) (by omega)
  omega

theorem validMach_facts {m : tMachine} (h : validMach m = true) : (2 ≤ m.1 ∧ m.1 ≤ 6) ∧ (1 ≤ m.2.1 ∧ m.2.1 ≤ 1000) ∧ (m.2.2.length : Int) = m.2.1 * m.1 ∧ m.2.2.length ≤ 6000 := by
  unfold validMach at h
  simp only [Bool.and_eq_true, beq_iff_eq] at h
  have h1 := withinB_true.1 h.1.1.1
  have h2 := withinB_true.1 h.1.1.2
  have h3 := mul_bd2 h1 h2
  exact ⟨h1, h2, h.1.2, by have := h.1.2; omega⟩

set_option maxRecDepth 100000 in
set_option maxHeartbeats 4000000 in
theorem impl_noRule  (w : World)  :
    Calls Try.prog 111 #[] w fun e w' => ∃ (es0' : List Value), e = .returned (.agg es0'.toArray) ∧ eRule.O w' (Fr w w') es0' noRl ∧ Below w.heap.size w w' := by
  have HH1 := Held.start Nob w
  refine enter (n := 2) Try.func111 rfl rfl rfl fun a_2 HE3 => ?_
  refine wp_seq ?_
  refine rg ?_
  refine pl fun K_4 hK5 => ?_
  refine st_alloc HE3 HH1 tv_114 (wt0 rfl) rfl fun q21 a_6 w' HE7 HH8 => hK5 _ _ ?_
  refine wpList_nil ?_
  clear a_2 HE3 HH1 hK5 K_4
  refine nrm ?_
  refine wp_seq ?_
  refine rg ?_
  refine pl_x HE7 HH8 (wt0 rfl) (show XS _ _ _ _ (.agg #[.int .i64 (0), .int .i64 (0), .int .i64 (-1)]) from x_build (vs := [(2, .int .i64 (-1))]) tb_114 rfl (by simp [Value.oneCell'])) rfl rfl fun a_9 HE10 => ?_
  refine pl fun K_11 hK12 => ?_
  refine st_store (vs := [.int .i64 (0), .int .i64 (0), .int .i64 (-1)]) 0 HE10 HH8 tv_114 rfl rfl rfl rfl rfl rfl (by simp [Value.oneCell']) (wt0 rfl) fun w' HH13 => hK12 _ _ ?_
  refine wpList_nil ?_
  clear a_6 HE7 HH8 hK12 K_11
  refine nrm ?_
  refine wp_ret ?_
  refine ret1 HE10 rfl (rv_cell rfl (tv_114.loadN (cs := [.int .i64 (0), .int .i64 (0), .int .i64 (-1)]) rfl (c_blkN 0 rfl _ HH13))) ?_
  have HH14 := HH13.flatO (E := eRule) (cs := [.int .i64 (0), .int .i64 (0), .int .i64 (-1)]) (x := (0, 0, -1)) (fun _ => (oPrN (oI (by exact ⟨by omega, by omega⟩)) (oPrN (oI (by exact ⟨by omega, by omega⟩)) (oI (by exact ⟨by omega, by omega⟩)))))
  have hF : noRl = (0, 0, -1) := by
    rfl
  exact ⟨_, rfl, by rw [hF]; exact (HH14.o (i := 0) rfl), HH14.below⟩

set_option maxRecDepth 100000 in
set_option maxHeartbeats 4000000 in
theorem impl_isRule (es0 : List Value) (a0 : tRule) (w : World) (h0 : eRule.R w (Old w) es0 a0) :
    Calls Try.prog 98 #[.agg es0.toArray] w fun e w' => e = .returned (.bool (isRl a0)) ∧ Below w.heap.size w w' := by
  have H0 := h0
  obtain ⟨rfl, gz0_0, gz0_1, gz0_2⟩ := shape_Rule h0
  have jz0_0 := gz0_0; unfold I64 at jz0_0
  have jz0_1 := gz0_1; unfold I64 at jz0_1
  have jz0_2 := gz0_2; unfold I64 at jz0_2
  have HH1 := Held.start Nob w
  refine enter (n := 6) Try.func98 rfl rfl rfl fun a_2 HE3 => ?_
  refine wp_seq ?_
  refine rg ?_
  refine pl fun K_4 hK5 => ?_
  refine st_box (cs := [.int .i64 (a0.1), .int .i64 (a0.2.1), .int .i64 (a0.2.2)]) HE3 HH1 rfl rfl (wt0 rfl) rfl fun q21 a_6 w' HE7 HH8 => hK5 _ _ ?_
  refine pl_x HE7 HH8 (wt0 rfl) (x_assign rfl) rfl rfl fun a_9 HE10 => ?_
  refine wpList_nil ?_
  clear a_2 HE3 HH1 a_6 HE7 hK5 K_4
  refine nrm ?_
  refine wp_seq ?_
  refine dr_start (Held Nob w [rBlk q21 114 [.int .i64 (a0.1), .int .i64 (a0.2.1), .int .i64 (a0.2.2)]]) 4 #[false, false, false, false] hmix rfl rfl HH8 (fun _ h => h.sel [0] (by decide) rfl) fun w' HH11 => ?_
  have HS12 := HH11
  refine dr_take (i := 0) (ls' := #[true, false, false, false]) HE10 HS12 rfl (by kernel_rfl) (by kernel_rfl) (by kernel_rfl) (fun _ _ _ h => h) rfl (wt0 rfl) (x_loadN (cs := [.int .i64 (a0.1), .int .i64 (a0.2.1), .int .i64 (a0.2.2)]) tv_114 rfl rfl (c_blkN 0 rfl)) rfl rfl fun a_13 HE14 => ?_
  refine dr_one (i := 1) (ls' := #[true, true, false, false]) rfl (by kernel_rfl) rfl fun K_15 hK16 => ?_
  refine st_call HE14 (wt0 rfl) rfl rfl rfl en_111 rfl rfl (impl_noRule  _ ) fun e w' hr => ?_
  obtain ⟨esr22_0, rfl, hor22_0, hbr22⟩ := hr
  have hr := eRule.read hor22_0
  obtain ⟨Sr22, HH17⟩ := HH11.newO hbr22 hor22_0
  obtain ⟨rfl, gr22_0_0, gr22_0_1, gr22_0_2⟩ := shape_Rule hr
  have jr22_0_0 := gr22_0_0; unfold I64 at jr22_0_0
  have jr22_0_1 := gr22_0_1; unfold I64 at jr22_0_1
  have jr22_0_2 := gr22_0_2; unfold I64 at jr22_0_2
  have HH18 := HH17.sel [1] (by decide) rfl
  refine ⟨_, rfl, fun a_19 HE20 => hK16 _ _ (by exact HH18.sel [0] (by decide) rfl) ?_⟩
  have HS21 := HH18.sel [0] (by decide) rfl
  refine dr_take (i := 2) (ls' := #[true, true, true, false]) HE20 HS21 rfl (by kernel_rfl) (by kernel_rfl) (by kernel_rfl) (fun _ _ _ h => h) rfl (wt0 rfl) (x_aneq eqg_Rule (fun w => eqr_Rule w _ _ _ _ _ _) rfl rfl) rfl rfl fun a_22 HE23 => ?_
  refine dr_take (i := 3) (ls' := #[true, true, true, true]) HE23 HS21 rfl (by kernel_rfl) (by kernel_rfl) (by kernel_rfl) (fun _ _ _ h => h) rfl (wt0 rfl) (x_assign rfl) rfl rfl fun a_24 HE25 => ?_
  refine dr_done (by kernel_rfl) ?_
  clear HH8 a_9 HE10 HH11 HH17 a_13 HE14 HS12 a_19 HE20 a_22 HE23 hK16 K_15
  refine nrm ?_
  refine wp_ret ?_
  refine ret1 HE25 rfl (rv_tmp rfl) ?_
  have hF : (isRl a0) = !(a0.1 == noRl.1 && (a0.2.1 == noRl.2.1 && (a0.2.2 == noRl.2.2))) := by
    rfl
  exact ⟨by first | (rw [hF] <;> rfl) | rfl | (rw [hF]; simp only [Ending.returned.injEq, Value.slice.injEq, true_and, and_true]; first | omega | (simp; done)) | (rw [hF]; simp; omega), HH18.below⟩

end Go.Proofs.Ythknelhboibbnaa
