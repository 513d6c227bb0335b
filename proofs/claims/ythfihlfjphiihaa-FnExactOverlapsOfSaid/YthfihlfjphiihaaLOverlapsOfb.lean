/- What the proof of FnExactOverlapsOf needs: contracts of the functions that it reaches, each once. -/
import Derived.Test.YthfihlfjphiihaaProg
import Derived.Test.YthfihlfjphiihaaQMem
import Derived.Test.YthfihlfjphiihaaQOpen
import Derived.Test.YthfihlfjphiihaaLOverlapsOfa
import Derived.WalkKit
import Derived.WalkSpells
import Derived.Below
import Derived.LoopTactic
import Derived.Outline
import Derived.Deep.QuietTactic
import Derived.BigQuiet
import Derived.Deep.LoopGhost
import Derived.Handy
import Derived.Lib.Hide
import Derived.Shelf.Abstract
import Derived.StillTailTactics
import Derived.OwnWalk
import Derived.Maps.AppendAt
import Derived.RegionTactic
import Derived.Deep.RegionHeld3
import Derived.IntWalk
import Derived.Deep.Upon
import Derived.Laws.OwnMore
import Derived.Maps.AppendAt
import Derived.Laws.Small
import Derived.Lib.FrozenHead
import Derived.Lib.RuneBytes
import Derived.Lib.LaidTab
import Derived.Laws.StructEq
import Derived.Lib.SliceRun
import Derived.Lib.AppendZeros
import Derived.Lib.ItoaLen
import Derived.Lib.Join
import Derived.Shelf.Strconv.Itoa4
import Derived.Shelf.Strings.OnBuilder
import Derived.Shelf.Strings.BuilderK
import Derived.Shelf.Strings.BuilderRune
import Derived.Shelf.LaysM
import Derived.Ground.NamesProg
namespace Go.Proofs.Ythfihlfjphiihaa
open Go.RowKit

theorem mkTo_end {α : Type} (f : α → Int → α) (c : α → Nat) (xs : List α) (k : Int) : mkTo f c xs k xs.length = mkL f c xs k := by simp [mkTo]

theorem mkTo_get {α : Type} (f : α → Int → α) (c : α → Nat) (xs : List α) (k : Int) (i : Nat) (h : i < xs.length) : (mkTo f c xs k i)[i]? = some xs[i] := by
  unfold mkTo
  rw [List.getElem?_append_right (by rw [mkL_len, List.length_take]; omega), mkL_len, List.length_take, List.getElem?_drop, show i + (i - min i xs.length) = i from by omega, List.getElem?_eq_getElem h]

theorem mkTo_step {α : Type} (f : α → Int → α) (c : α → Nat) (xs : List α) (k : Int) (i : Nat) (h : i < xs.length) : (mkTo f c xs k i).set i (f xs[i] (k + cntL c (xs.take i))) = mkTo f c xs k (i + 1) := by
  have hl : (mkL f c (xs.take i) k).length = i := by rw [mkL_len, List.length_take]; omega
  unfold mkTo
  rw [List.take_succ_eq_append_getElem h, mkL_append, List.drop_eq_getElem_cons h, List.set_append_right _ _ (by omega), hl, Nat.sub_self, List.set_cons_zero]
  simp [mkL]

theorem mkL_get {α : Type} (f : α → Int → α) (c : α → Nat) (xs : List α) (k : Int) (i : Nat) (h : i < xs.length) : (mkL f c xs k)[i]? = some (f xs[i] (k + cntL c (xs.take i))) := by
  have h1 : mkL f c xs k = mkL f c (xs.take i) k ++ mkL f c (xs.drop i) (k + cntL c (xs.take i)) := by rw [← mkL_append, List.take_append_drop]
  have hl : (mkL f c (xs.take i) k).length = i := by rw [mkL_len, List.length_take]; omega
  rw [h1, List.getElem?_append_right (by omega), hl, Nat.sub_self, List.drop_eq_getElem_cons h]
  rfl

def mk_i (_ : Int) (k : Int) : Int := k

def ct_i (_ : Int) : Nat := 1

def mk_L (xs : List Int) (k : Int) : List Int := mkL mk_i ct_i xs k

def ct_L (xs : List Int) : Nat := cntL ct_i xs

def mk_LL (xs : List (List Int)) (k : Int) : List (List Int) := mkL mk_L ct_L xs k

def ct_LL (xs : List (List Int)) : Nat := cntL ct_L xs

def mk_LLL (xs : List (List (List Int))) (k : Int) : List (List (List Int)) := mkL mk_LL ct_LL xs k

def ct_LLL (xs : List (List (List Int))) : Nat := cntL ct_LL xs

/-- As an element of a slice: every field is marked. -/
def mk_Rewrite (x : tRewrite) (k : Int) : tRewrite := (mk_L x.1 (k), mk_L x.2 (k + ct_L x.1))

def ct_Rewrite (x : tRewrite) : Nat := ct_L x.1 + ct_L x.2

def mk_SRewrite (xs : List tRewrite) (k : Int) : List tRewrite := mkL mk_Rewrite ct_Rewrite xs k

def ct_SRewrite (xs : List tRewrite) : Nat := cntL ct_Rewrite xs

set_option maxHeartbeats 1000000 in
theorem mark_L_c (A : Option Addr) (c : Nat) (xs : List Int) (k : Int) (w : World) (S : Nat → Prop) (h : So eInt w S A c xs) (_hS : ∀ b, S b → b < w.heap.size) (hk : 0 ≤ k) (hk' : k + (ct_L xs : Int) ≤ 1000000000000) :
    Calls Try.prog 23 #[.slice A xs.length c, .int .i64 k] w fun e w' => e = .returned (.int .i64 (k + (ct_L xs : Int))) ∧ So eInt w' S A c (mk_L xs k) ∧ Chg S w w' := by
  have hlen := h.sl.len
  clear _hS
  have H := Lib.hid h; clear h
  have HC : Hid (ct_L xs = cntL ct_i xs) := rfl
  go_enter Try.func23, Try.ntmps23
  go_wp2
  go_loopw [1, 5] (fun s1 s5 wr => ∃ (i : Nat) (q : Int), i ≤ xs.length ∧ s5 = .int .i64 i ∧ s1 = .int .i64 q ∧ 0 ≤ q ∧ q ≤ 1000000000000 ∧ Hid (q = k + (cntL ct_i (xs.take i) : Int)) ∧ Hid (So eInt wr S A c (mkTo mk_i ct_i xs k i)) ∧ Hid (Chg S w wr)) (fun _ s5 _ => xs.length - (intOf s5).toNat)
  case atStart => exact ⟨0, k, Nat.zero_le _, rfl, rfl, hk, by omega, by show _ = _; simp [cntL], by show So _ _ _ _ _ _; rw [mkTo_zero]; exact H.out, Chg.refl _ _⟩
  case round =>
    obtain ⟨i, q, hi, rfl, rfl, hq0, hq1, HQ, HS, HG⟩ := hrel
    by_cases hlt : i < xs.length
    · have hltz : (i : Int) < (xs.length : Int) := by omega
      have HQ2 : Hid (q + 1 ≤ 1000000000000 ∧ q + 1 = k + (cntL ct_i (xs.take (i + 1)) : Int)) := by
        have h1 := cntL_take ct_i xs i hlt
        have h2 := cntL_le ct_i xs (i + 1)
        have h3 : ct_i xs[i] = 1 := rfl
        have h4 := HQ.out
        have h5 := HC.out
        refine ⟨?_, ?_⟩ <;> omega
      have hq2 := HQ2.out.1
      obtain ⟨b, off, t, cur, T, es, rfl, hSb, hB, hT, hO, hcells, hre⟩ := HS.out.at (k := i) (by rw [mkTo_len]; exact hlt)
      have hel := eInt.len (eInt.read hO)
      obtain ⟨v0, hv0⟩ : ∃ v, cur[off + i]? = some v := ⟨_, by have h := hcells 0 _ (List.getElem?_eq_getElem (by rw [hel]; decide)); rw [show off + i * eInt.size + 0 = off + i from by show off + i * 1 + 0 = _; omega] at h; exact h⟩
      have e0 : wr.cell? ⟨b, off + i, none⟩ = some v0 := (hB.cell _).trans hv0
      have f0 := hB.frozen (off + i)
      clear hv0
      have HB := Lib.hid hB; clear hB hcells hel
      have HRE : Hid (So eInt (wr.setCell ⟨b, off + i, none⟩ (.int .i64 (q))) S (some ⟨b, off, none⟩) c (mkTo mk_i ct_i xs k (i + 1))) := by
        show So _ _ _ _ _ _
        rw [← mkTo_step mk_i ct_i xs k i hlt, ← HQ.out]
        refine hre _ [.int .i64 (q)] _ (oI (i64_small (by omega) (by omega))) ?_ (fun m hm hne _ => ?_)
        · rw [show off + i * eInt.size = off + i from by show off + i * 1 = _; omega]; exact HB.out.set _ _
        · rw [Below.heap_setCell _ _ _ _ (by exact hne)]
      clear hre hO hT
      have HG2 : Hid (Chg S w (wr.setCell ⟨b, off + i, none⟩ (.int .i64 (q)))) := (HG.out.set (by exact hSb) _)
      have HSB := Lib.hid hSb; clear hSb
      go_wp2
      go_roundw
      case rel => exact ⟨i + 1, q + 1, by omega, by go_num, rfl, by omega, by omega, by show _ = _; have := HQ2.out.2; omega, HRE.out, HG2.out⟩
      case measure => simp [intOf]; omega
    · have hltz : ¬ (i : Int) < (xs.length : Int) := by omega
      obtain rfl : i = xs.length := by omega
      have h2 := HQ.out
      rw [List.take_length] at h2
      have h3 := HS.out
      rw [mkTo_end] at h3
      have H2 := Lib.hid h2; have H3 := Lib.hid h3; clear h2 h3
      go_wp2
      go_ret
      exact ⟨ret_int (by rw [H2.out, HC.out]), H3.out, HG.out⟩

set_option maxHeartbeats 1000000 in
theorem held_L_c (A : Option Addr) (c : Nat) (xs : List Int) (k : Int) (w : World) (h : Sl eInt w (Old w) A c (mk_L xs k)) (hk : 0 ≤ k) (hk' : k + (ct_L xs : Int) ≤ 1000000000000) :
    Calls Try.prog 25 #[.slice A xs.length c, .int .i64 k] w fun e w' => e = .returned (.int .i64 (k + (ct_L xs : Int))) ∧ Below w.heap.size w w' := by
  have hlen := h.len
  have hL : (mk_L xs k).length = xs.length := mkL_len _ _ _ _
  rw [hL] at hlen
  have HLen := Lib.hid hL; clear hL
  have H := Lib.hid h; clear h
  have HC : Hid (ct_L xs = cntL ct_i xs) := rfl
  go_enter Try.func25, Try.ntmps25
  go_wp2
  go_loop [1, 5] (fun s1 s5 => ∃ (i : Nat) (q : Int), i ≤ xs.length ∧ s5 = .int .i64 i ∧ s1 = .int .i64 q ∧ 0 ≤ q ∧ q ≤ 1000000000000 ∧ Hid (q = k + (cntL ct_i (xs.take i) : Int))) (fun _ s5 => xs.length - (intOf s5).toNat)
  case atStart => exact ⟨0, k, Nat.zero_le _, rfl, rfl, hk, by omega, by show _ = _; simp [cntL]⟩
  case round =>
    obtain ⟨i, q, hi, rfl, rfl, hq0, hq1, HQ⟩ := hrel
    by_cases hlt : i < xs.length
    · have hltz : (i : Int) < (xs.length : Int) := by omega
      have HQ2 : Hid (q + 1 ≤ 1000000000000 ∧ q + 1 = k + (cntL ct_i (xs.take (i + 1)) : Int)) := by
        have h1 := cntL_take ct_i xs i hlt
        have h2 := cntL_le ct_i xs (i + 1)
        have h3 : ct_i xs[i] = 1 := rfl
        have h4 := HQ.out
        have h5 := HC.out
        refine ⟨?_, ?_⟩ <;> omega
      have hq2 := HQ2.out.1
      have hlt2 : i < (mk_L xs k).length := by rw [HLen.out]; exact hlt
      have HE : Hid ((mk_L xs k)[i] = mk_i xs[i] q) := by
        have h1 := mkL_get mk_i ct_i xs k i hlt
        rw [← HQ.out] at h1
        exact Option.some.inj ((List.getElem?_eq_getElem hlt2).symm.trans h1)
      obtain ⟨b, off, es, rfl, hb, hR, hc⟩ := H.out.at1 rfl hlt2
      rw [HE.out] at hR
      obtain ⟨rfl, gq⟩ := hR
      have d0 : w.cell? ⟨b, off + i, none⟩ = some (.int .i64 q) := hc _ rfl
      have t0 : (q != q) = false := by simp
      clear hc gq
      try clear hR
      go_wp2
      go_round
      case rel => exact ⟨i + 1, q + 1, by omega, by go_num, rfl, by omega, by omega, by show _ = _; have := HQ2.out.2; omega⟩
      case measure => simp [intOf]; omega
    · have hltz : ¬ (i : Int) < (xs.length : Int) := by omega
      obtain rfl : i = xs.length := by omega
      have h2 := HQ.out
      rw [List.take_length] at h2
      have H2 := Lib.hid h2; clear h2
      go_wp2
      go_ret
      exact ⟨ret_int (by rw [H2.out, HC.out]), Below.refl _ _⟩

set_option maxHeartbeats 1000000 in
theorem mark_LL_c (A : Option Addr) (c : Nat) (xs : List (List Int)) (k : Int) (w : World) (S : Nat → Prop) (h : So (eSl eInt) w S A c xs) (hS : ∀ b, S b → b < w.heap.size) (hk : 0 ≤ k) (hk' : k + (ct_LL xs : Int) ≤ 1000000000000) :
    Calls Try.prog 33 #[.slice A xs.length c, .int .i64 k] w fun e w' => e = .returned (.int .i64 (k + (ct_LL xs : Int))) ∧ So (eSl eInt) w' S A c (mk_LL xs k) ∧ Chg S w w' := by
  have hlen := h.sl.len
  have H := Lib.hid h; clear h
  have HS0 := Lib.hid hS; clear hS
  have HC : Hid (ct_LL xs = cntL ct_L xs) := rfl
  go_enter Try.func33, Try.ntmps33
  go_wp2
  go_loopw [1, 5] (fun s1 s5 wr => ∃ (i : Nat) (q : Int), i ≤ xs.length ∧ s5 = .int .i64 i ∧ s1 = .int .i64 q ∧ 0 ≤ q ∧ q ≤ 1000000000000 ∧ Hid (q = k + (cntL ct_L (xs.take i) : Int)) ∧ Hid (So (eSl eInt) wr S A c (mkTo mk_L ct_L xs k i)) ∧ Hid (Chg S w wr)) (fun _ s5 _ => xs.length - (intOf s5).toNat)
  case atStart => exact ⟨0, k, Nat.zero_le _, rfl, rfl, hk, by omega, by show _ = _; simp [cntL], by show So _ _ _ _ _ _; rw [mkTo_zero]; exact H.out, Chg.refl _ _⟩
  case round =>
    obtain ⟨i, q, hi, rfl, rfl, hq0, hq1, HQ, HS, HG⟩ := hrel
    by_cases hlt : i < xs.length
    · have hltz : (i : Int) < (xs.length : Int) := by omega
      have HQ2 : Hid (q + (ct_L xs[i] : Int) ≤ 1000000000000 ∧ q + (ct_L xs[i] : Int) = k + (cntL ct_L (xs.take (i + 1)) : Int)) := by
        have h1 := cntL_take ct_L xs i hlt
        have h2 := cntL_le ct_L xs (i + 1)
        have h4 := HQ.out
        have h5 := HC.out
        refine ⟨?_, ?_⟩ <;> omega
      have hq2 := HQ2.out.1
      have HSW : Hid (∀ b, S b → b < wr.heap.size) := fun b hb => Nat.lt_of_lt_of_le (HS0.out b hb) HG.out.size
      have hlt2 : i < (mkTo mk_L ct_L xs k i).length := by rw [mkTo_len]; exact hlt
      obtain ⟨b, off, t, cur, T, es, rfl, hSb, hB, hT, hO, hcells, hre⟩ := HS.out.at2 hlt2
      have hX : (mkTo mk_L ct_L xs k i)[i] = xs[i] := Option.some.inj ((List.getElem?_eq_getElem hlt2).symm.trans (mkTo_get mk_L ct_L xs k i hlt))
      rw [hX] at hO
      obtain ⟨A', c', rfl, hso⟩ := hO
      have d0 : wr.cell? ⟨b, off + i, none⟩ = some (.slice A' xs[i].length c') := (hB.cell _).trans (by have h1 := hcells 0 _ rfl; rw [show off + i * (eSl eInt).size + 0 = off + i from by show off + i * 1 + 0 = _; omega] at h1; exact h1)
      have HM := Lib.hid (mark_L_c A' c' xs[i] q wr T hso (fun b hb => HSW.out b (hT b hb).1) hq0 hq2)
      have HRE : Hid (∀ w1, So eInt w1 T A' c' (mk_L xs[i] q) → Chg T wr w1 → So (eSl eInt) w1 S (some ⟨b, off, none⟩) c (mkTo mk_L ct_L xs k (i + 1))) := fun w1 h1 h2 => by
        rw [← mkTo_step mk_L ct_L xs k i hlt, ← HQ.out]
        refine hre w1 cur [.slice A' xs[i].length c'] _ ⟨A', c', by rw [show (mk_L xs[i] q).length = xs[i].length from mkL_len _ _ _ _], h1⟩ ((h2.block b (HSW.out b hSb) (fun hb => (hT b hb).2 rfl)).trans hB) hcells (fun _ _ => rfl) (fun m hm _ hnT => h2.block m (HSW.out m hm) hnT)
      have HTS : Hid (∀ b, T b → S b) := fun b hb => (hT b hb).1
      clear hre hcells hT hX hso hSb hB
      generalize xs[i] = y at d0 HM HRE HQ2 hq2
      go_wp2_with fail
      refine HM.out.mono ?_
      rintro e w1 ⟨rfl, hs1, hc1⟩
      have HS1 := Lib.hid (HRE.out w1 hs1 hc1)
      have HG1 : Hid (Chg S w w1) := HG.out.trans (hc1.mono HTS.out)
      clear hs1 hc1
      go_wp2
      go_roundw
      case rel => exact ⟨i + 1, _, by omega, by go_num, rfl, by omega, by omega, HQ2.out.2, HS1.out, HG1.out⟩
      case measure => simp [intOf]; omega
    · have hltz : ¬ (i : Int) < (xs.length : Int) := by omega
      obtain rfl : i = xs.length := by omega
      have h2 := HQ.out
      rw [List.take_length] at h2
      have h3 := HS.out
      rw [mkTo_end] at h3
      have H2 := Lib.hid h2; have H3 := Lib.hid h3; clear h2 h3
      go_wp2
      go_ret
      exact ⟨ret_int (by rw [H2.out, HC.out]), H3.out, HG.out⟩

set_option maxHeartbeats 1000000 in
theorem held_LL_c (A : Option Addr) (c : Nat) (xs : List (List Int)) (k : Int) (w : World) (h : Sl (eSl eInt) w (Old w) A c (mk_LL xs k)) (hk : 0 ≤ k) (hk' : k + (ct_LL xs : Int) ≤ 1000000000000) :
    Calls Try.prog 34 #[.slice A xs.length c, .int .i64 k] w fun e w' => e = .returned (.int .i64 (k + (ct_LL xs : Int))) ∧ Below w.heap.size w w' := by
  have hlen := h.len
  have hL : (mk_LL xs k).length = xs.length := mkL_len _ _ _ _
  rw [hL] at hlen
  have HLen := Lib.hid hL; clear hL
  have H := Lib.hid h; clear h
  have HC : Hid (ct_LL xs = cntL ct_L xs) := rfl
  go_enter Try.func34, Try.ntmps34
  go_wp2
  go_loopw [1, 5] (fun s1 s5 wr => ∃ (i : Nat) (q : Int), i ≤ xs.length ∧ s5 = .int .i64 i ∧ s1 = .int .i64 q ∧ 0 ≤ q ∧ q ≤ 1000000000000 ∧ Hid (q = k + (cntL ct_L (xs.take i) : Int)) ∧ Hid (Below w.heap.size w wr)) (fun _ s5 _ => xs.length - (intOf s5).toNat)
  case atStart => exact ⟨0, k, Nat.zero_le _, rfl, rfl, hk, by omega, by show _ = _; simp [cntL], Below.refl _ _⟩
  case round =>
    obtain ⟨i, q, hi, rfl, rfl, hq0, hq1, HQ, BW⟩ := hrel
    by_cases hlt : i < xs.length
    · have hltz : (i : Int) < (xs.length : Int) := by omega
      have HQ2 : Hid (q + (ct_L xs[i] : Int) ≤ 1000000000000 ∧ q + (ct_L xs[i] : Int) = k + (cntL ct_L (xs.take (i + 1)) : Int)) := by
        have h1 := cntL_take ct_L xs i hlt
        have h2 := cntL_le ct_L xs (i + 1)
        have h4 := HQ.out
        have h5 := HC.out
        refine ⟨?_, ?_⟩ <;> omega
      have hq2 := HQ2.out.1
      have hlt2 : i < (mk_LL xs k).length := by rw [HLen.out]; exact hlt
      have HE : Hid ((mk_LL xs k)[i] = mk_L xs[i] q) := by
        have h1 := mkL_get mk_L ct_L xs k i hlt
        rw [← HQ.out] at h1
        exact Option.some.inj ((List.getElem?_eq_getElem hlt2).symm.trans h1)
      obtain ⟨b, off, es, rfl, hb, hR, hc⟩ := H.out.at1 rfl hlt2
      rw [HE.out] at hR
      obtain ⟨A', c', rfl, g⟩ := hR
      have d0 : wr.cell? ⟨b, off + i, none⟩ = some (.slice A' xs[i].length c') := (below_olds BW.out _ hb).trans ((hc _ rfl).trans (by rw [show (mk_L xs[i] q).length = xs[i].length from mkL_len _ _ _ _]))
      have HH := Lib.hid (held_L_c A' c' xs[i] q wr (g.on BW.out) hq0 hq2)
      clear hc g
      generalize xs[i] = y at d0 HH HQ2 hq2
      have hneg : ¬ q + (ct_L y : Int) < 0 := by omega
      go_wp2_with fail
      refine HH.out.mono ?_
      rintro e w1 ⟨rfl, hb1⟩
      have HB1 := Lib.hid (below_trans BW.out hb1); clear hb1
      go_wp2
      go_roundw
      case rel => exact ⟨i + 1, _, by omega, by go_num, rfl, by omega, by omega, HQ2.out.2, HB1.out⟩
      case measure => simp [intOf]; omega
    · have hltz : ¬ (i : Int) < (xs.length : Int) := by omega
      obtain rfl : i = xs.length := by omega
      have h2 := HQ.out
      rw [List.take_length] at h2
      have H2 := Lib.hid h2; clear h2
      go_wp2
      go_ret
      exact ⟨ret_int (by rw [H2.out, HC.out]), BW.out⟩

theorem cntL_const {α : Type} (c : α → Nat) (n : Nat) (xs : List α) (h : ∀ x, c x = n) : cntL c xs = n * xs.length := by
  unfold cntL
  induction xs with
  | nil => simp
  | cons x xs ih => rw [List.map_cons, List.sum_cons, ih, h, List.length_cons, Nat.mul_succ]; omega

/-- A slice of the call's own, from block `base` on, holding flat elements. -/
def Row {α : Type} (E : Enc α) (enc : α → List Value) (t : TypeId) (w : World) (base : Nat) (v : Value) (xs : List α) : Prop :=
  w.ownsRow base t E.size v xs.length (xs.flatMap enc) ∧ ∀ x ∈ xs, ∀ W : World, E.O W (fun _ => False) (enc x) x

theorem flat_get {α : Type} (enc : α → List Value) (s : Nat) : ∀ (xs : List α), (∀ x ∈ xs, (enc x).length = s) → ∀ (i : Nat) (x : α), xs[i]? = some x → ∀ j, j < s → (xs.flatMap enc)[i * s + j]? = (enc x)[j]?
  | [], _, i, x, hx, _, _ => by simp at hx
  | y :: ys, h, 0, x, hx, j, hj => by
    simp at hx; subst hx
    rw [List.flatMap_cons, Nat.zero_mul, Nat.zero_add, List.getElem?_append_left (by rw [h y (by simp)]; exact hj)]
  | y :: ys, h, i + 1, x, hx, j, hj => by
    have hy := h y (by simp)
    rw [List.flatMap_cons, Nat.succ_mul, List.getElem?_append_right (by rw [hy]; omega), hy, show i * s + s + j - s = i * s + j from by omega]
    exact flat_get enc s ys (fun z hz => h z (by simp [hz])) i x (by simpa using hx) j hj

theorem Row.so {α : Type} {E : Enc α} {enc : α → List Value} {t : TypeId} {w0 w : World} {v : Value} {xs : List α} (h : Row E enc t w w0.heap.size v xs) : ∃ A c, v = .slice A xs.length c ∧ So E w (Fr w0 w) A c xs := by
  obtain ⟨h1, h2⟩ := h
  rcases h1.2 with ⟨rfl, hn⟩ | ⟨g, cap, cur, rfl, hg, hh, hnc, hcm, hcs, htk⟩
  · have hx : xs = [] := List.eq_nil_of_length_eq_zero hn
    subst hx
    exact ⟨none, 0, rfl, So.nil (Nat.zero_le _)⟩
  · refine ⟨_, cap, rfl, hnc, hcm, fun hne => ⟨g, 0, t, cur, fun _ _ => False, rfl, ⟨hg, Blk.lt (t := t) (cur := cur) hh⟩, hh, fun _ _ h => h.elim, fun _ _ _ h => h.elim, fun i x hx => ⟨enc x, h2 x (List.mem_of_getElem? hx) w, fun j u hu => ?_⟩⟩⟩
    have hi := (List.getElem?_eq_some_iff.1 hx).1
    have hj := (List.getElem?_eq_some_iff.1 hu).1
    have hl : ∀ y ∈ xs, (enc y).length = E.size := fun y hy => E.len (E.read (h2 y hy w))
    rw [hl x (List.mem_of_getElem? hx)] at hj
    have h3 := flat_get enc E.size xs hl i x hx j hj
    rw [← htk] at h3
    have hlt : i * E.size + j < xs.length * E.size := by
      have : (i + 1) * E.size ≤ xs.length * E.size := Nat.mul_le_mul_right _ (by omega)
      rw [Nat.succ_mul] at this; omega
    rw [List.getElem?_take_of_lt hlt, Array.getElem?_toList] at h3
    rw [Nat.zero_add, h3]; exact hu

theorem Row.nil {α : Type} {E : Enc α} {enc : α → List Value} {t : TypeId} {w : World} {base : Nat} : Row E enc t w base (.slice none 0 0) [] := ⟨World.ownsRow_nil _ _ _ _, fun _ h => by simp at h⟩

/-- `[]T{}`: an empty row of its own. -/
theorem Row.empty {α : Type} {E : Enc α} {enc : α → List Value} {t : TypeId} {w : World} {base : Nat} (hb : base ≤ w.heap.size) : Row E enc t (w.alloc (.cells #[] t)) base (.slice (some ⟨w.heap.size, 0, none⟩) 0 0) [] :=
  ⟨⟨by simp, .inr ⟨_, 0, #[], rfl, hb, Blk.new w t #[], Nat.le_refl _, Nat.zero_le _, by simp, by simp⟩⟩, fun _ h => by simp at h⟩

def encInt (x : Int) : List Value := [.int .i64 x]

theorem Row.keep {α : Type} {E : Enc α} {enc : α → List Value} {t : TypeId} {w w' : World} {base : Nat} {v : Value} {xs : List α} (h : Row E enc t w base v xs) (hk : ∀ b, v.ownBlock = some b → w'.heap[b]? = w.heap[b]?) : Row E enc t w' base v xs := by
  obtain ⟨⟨h1, h2⟩, h3⟩ := h
  refine ⟨⟨h1, ?_⟩, h3⟩
  rcases h2 with h2 | ⟨g, cap, cur, rfl, hg, hh, r⟩
  · exact .inl h2
  · exact .inr ⟨g, cap, cur, rfl, hg, (hk g rfl).trans hh, r⟩

theorem Row.lt {α : Type} {E : Enc α} {enc : α → List Value} {t : TypeId} {w : World} {base : Nat} {v : Value} {xs : List α} (h : Row E enc t w base v xs) : ∀ b, v.ownBlock = some b → base ≤ b ∧ b < w.heap.size := h.1.lt

theorem Row.on {α : Type} {E : Enc α} {enc : α → List Value} {t : TypeId} {w w' : World} {base : Nat} {v : Value} {xs : List α} (h : Row E enc t w base v xs) (hb : Below w.heap.size w w') : Row E enc t w' base v xs := h.keep fun b hv => hb.block b (h.lt b hv).2

theorem Row.snoc {α : Type} {E : Enc α} {enc : α → List Value} {t : TypeId} {w w' : World} {base : Nat} {v v' : Value} {xs : List α} {x : α} (h : Row E enc t w base v xs) (ho : w'.ownsRow base t E.size v' (xs.length + 1) (xs.flatMap enc ++ enc x)) (hx : ∀ W : World, E.O W (fun _ => False) (enc x) x) : Row E enc t w' base v' (xs ++ [x]) := by
  refine ⟨?_, fun y hy => ?_⟩
  · rw [List.length_append, List.length_singleton, List.flatMap_append]
    simpa using ho
  · rcases List.mem_append.1 hy with h1 | h1
    · exact h.2 y h1
    · rw [List.mem_singleton.1 h1]; exact hx

/-- Elements whose cells lead nowhere. -/
structure Flat {α : Type} (E : Enc α) (enc : α → List Value) : Prop where
  r : ∀ {W : World} {S : Nat → Prop} {cs : List Value} {x : α}, E.R W S cs x → cs = enc x ∧ ∀ W' : World, E.O W' (fun _ => False) (enc x) x
  one : ∀ (x : α), ∀ u ∈ enc x, u.oneCell' = true

theorem flat_int : Flat eInt encInt := ⟨fun h => ⟨h.1, fun _ => ⟨rfl, h.2⟩⟩, fun x u hu => by simp [encInt] at hu; subst hu; rfl⟩

theorem flatMap_at {α : Type} (enc : α → List Value) (s : Nat) (hs : 0 < s) : ∀ (ys : List α), (∀ y ∈ ys, (enc y).length = s) → ∀ (j : Nat) (u : Value), (ys.flatMap enc)[j]? = some u → ∃ y, ys[j / s]? = some y ∧ (enc y)[j % s]? = some u
  | [], _, j, u, h => by simp at h
  | y :: ys, hl, j, u, h => by
    have hy := hl y (by simp)
    rw [List.flatMap_cons] at h
    by_cases hj : j < s
    · rw [List.getElem?_append_left (by omega)] at h
      exact ⟨y, by rw [Nat.div_eq_of_lt hj]; rfl, by rw [Nat.mod_eq_of_lt hj]; exact h⟩
    · rw [List.getElem?_append_right (by omega), hy] at h
      obtain ⟨z, h1, h2⟩ := flatMap_at enc s hs ys (fun z hz => hl z (by simp [hz])) (j - s) u h
      refine ⟨z, ?_, ?_⟩
      · rw [Nat.div_eq_sub_div hs (by omega), List.getElem?_cons_succ]; exact h1
      · rw [Nat.mod_eq_sub_mod (by omega)]; exact h2

theorem flatMap_len {α : Type} (enc : α → List Value) (s : Nat) (ys : List α) (h : ∀ y ∈ ys, (enc y).length = s) : (ys.flatMap enc).length = ys.length * s := by
  induction ys with
  | nil => simp
  | cons y ys ih => rw [List.flatMap_cons, List.length_append, ih (fun z hz => h z (by simp [hz])), h y (by simp), List.length_cons, Nat.succ_mul]; omega

theorem Flat.sl {α : Type} {E : Enc α} {enc : α → List Value} (hf : Flat E enc) {w : World} {S : Nat → Prop} {A : Option Addr} {c : Nat} {ys : List α} (h : Sl E w S A c ys) : ∀ y ∈ ys, ∀ W : World, E.O W (fun _ => False) (enc y) y := by
  intro y hy
  obtain ⟨i, hi, rfl⟩ := List.getElem_of_mem hy
  obtain ⟨b, off, es, _, _, h1, _⟩ := h.at hi
  exact (hf.r h1).2

theorem Flat.len {α : Type} {E : Enc α} {enc : α → List Value} {y : α} (h : ∀ W : World, E.O W (fun _ => False) (enc y) y) : (enc y).length = E.size := E.len (E.read (h default))

theorem Flat.cells {α : Type} {E : Enc α} {enc : α → List Value} (hf : Flat E enc) {w : World} {S : Nat → Prop} {b off : Nat} {c : Nat} {ys : List α} (h : Sl E w S (some ⟨b, off, none⟩) c ys) : ∀ j u, (ys.flatMap enc)[j]? = some u → w.cell? ((⟨b, off, none⟩ : Addr).add j) = some u := by
  intro j u hu
  obtain ⟨y, h1, h2⟩ := flatMap_at enc E.size E.pos ys (fun y hy => Flat.len (hf.sl h y hy)) j u hu
  have hi := (List.getElem?_eq_some_iff.1 h1).1
  obtain ⟨b', off', es, hA, _, h3, h4⟩ := h.at hi
  simp only [Option.some.injEq, Addr.mk.injEq, and_true] at hA
  obtain ⟨rfl, rfl⟩ := hA
  have hy : ys[j / E.size] = y := (List.getElem?_eq_some_iff.1 h1).2
  rw [hy] at h3
  rw [(hf.r h3).1] at h4
  have := h4 (j % E.size) u h2
  rw [show off + j / E.size * E.size + j % E.size = off + j from by rw [Nat.add_assoc, Nat.div_add_mod']] at this
  rw [Addr.add_lit]; exact this

/-- The facts on a type of elements that an append wants. -/
structure Elem {α : Type} (P : Program) (E : Enc α) (t e : TypeId) (bytes : Nat) : Prop where
  under : P.underlying t = some (.slice e)
  info : ∃ i z, P.info? e = some i ∧ i.zero = some z ∧ i.size = E.size ∧ i.bytes = bytes ∧ z.cells.size = E.size

theorem Row.all {α : Type} {E : Enc α} {enc : α → List Value} {t : TypeId} {w : World} {base : Nat} {v : Value} {xs ys : List α} (h : Row E enc t w base v xs) {w' : World} {v' : Value} (ho : w'.ownsRow base t E.size v' (xs.length + ys.length) (xs.flatMap enc ++ ys.flatMap enc)) (hy : ∀ y ∈ ys, ∀ W : World, E.O W (fun _ => False) (enc y) y) : Row E enc t w' base v' (xs ++ ys) := by
  refine ⟨by rw [List.length_append, List.flatMap_append]; exact ho, fun y hm => ?_⟩
  rcases List.mem_append.1 hm with h1 | h1
  · exact h.2 y h1
  · exact hy y h1

theorem Row.shape {α : Type} {E : Enc α} {enc : α → List Value} {t : TypeId} {w : World} {base : Nat} {v : Value} {xs : List α} (h : Row E enc t w base v xs) : ∃ A c, v = .slice A xs.length c ∧ xs.length ≤ c ∧ c ≤ maxLen := by
  rcases h.1.2 with ⟨rfl, hn⟩ | ⟨g, cap, cur, rfl, hg, hh, hnc, hcm, _⟩
  · exact ⟨none, 0, by rw [hn], by omega, Nat.zero_le _⟩
  · exact ⟨_, cap, rfl, hnc, hcm⟩

theorem run_append_row {α : Type} {P : Program} {E : Enc α} {enc : α → List Value} (hf : Flat E enc) {t e : TypeId} {bytes : Nat} (he : Elem P E t e bytes) (ty : TypeId) {w : World} {base : Nat} {v : Value} {xs ys : List α} (hR : Row E enc e w base v xs)
    {S : Nat → Prop} {A : Option Addr} {c : Nat} (hS : Sl E w S A c ys) (h63 : xs.length + ys.length ≤ maxLen) (hbytes : (xs.length + ys.length) * bytes ≤ 140737488355328) (hbase : base ≤ w.heap.size) :
    ∃ v' w', (Builtin.append_ #[t, t] ty #[v, .slice A ys.length c]).run P w = .ok v' w' ∧ Row E enc e w' base v' (xs ++ ys) ∧ w.grownBy w' v.ownBlock ∧ (v'.ownBlock = v.ownBlock ∨ v'.ownBlock = some w.heap.size) := by
  obtain ⟨i, z, hi, hz0, hz1, hz2, hz3⟩ := he.info
  have hlen : ∀ y ∈ ys, (enc y).length = E.size := fun y hy => Flat.len (hf.sl hS y hy)
  cases A with
  | none =>
    have hy : ys = [] := Classical.byContradiction fun hn => by
      obtain ⟨b, off, hA, _⟩ := hS.2.2 hn
      cases hA
    subst hy
    obtain ⟨A', c', rfl, hle, _⟩ := hR.shape
    refine ⟨_, w, run_append_nothing w t t ty e i he.under hi A' xs.length c' hle (.slice none 0 c) (Src.ofNil w he.under c), by rw [List.append_nil]; exact hR, World.grownBy.refl _ _, .inl rfl⟩
  | some ad =>
    obtain ⟨b, off, sp⟩ := ad
    by_cases hn : ys = []
    · subst hn
      obtain ⟨v', w', h1, h2, h3, h4, h5⟩ := run_append_own_at (P := P) w base t ty e i z E.size bytes he.under hi hz0 hz1 hz2 hz3 E.pos v xs.length (xs.flatMap enc) hR.1 ⟨b, off, sp⟩ 0 c [] (by simp) (fun j u h => by simp at h) (fun u h => by simp at h) h63 hbytes hbase
      exact ⟨v', w', h1, hR.all h2 (fun y hy => by simp at hy), h3, h5⟩
    · obtain ⟨b', off', hA, _⟩ := hS.2.2 hn
      simp only [Option.some.injEq, Addr.mk.injEq] at hA
      obtain ⟨rfl, rfl, rfl⟩ := hA
      obtain ⟨v', w', h1, h2, h3, h4, h5⟩ := run_append_own_at (P := P) w base t ty e i z E.size bytes he.under hi hz0 hz1 hz2 hz3 E.pos v xs.length (xs.flatMap enc) hR.1 ⟨b, off, none⟩ ys.length c (ys.flatMap enc) (flatMap_len enc E.size ys hlen) (hf.cells hS)
        (fun u hu => by obtain ⟨y, _, h⟩ := List.mem_flatMap.1 hu; exact hf.one y u h) h63 hbytes hbase
      exact ⟨v', w', h1, hR.all h2 (hf.sl hS), h3, h5⟩

theorem wpList_append_row {α : Type} {P : Program} {E : Enc α} {enc : α → List Value} (hf : Flat E enc) {t e : TypeId} {bytes : Nat} (he : Elem P E t e bytes) {ops : Array Oper} {rest : List Oper} {o : Oper} {a : Act} {Q : Exit → Act → World → Prop} {w : World} (hgd : o.guard = none) (s x : Operand)
    (ho : o.op = .call { callee := .builtin .append, args := #[s, x], argTypes := #[t, t] }) {base : Nat} {v : Value} {xs ys : List α} (hs : a.eval s = v) (hR : Row E enc e w base v xs)
    {S : Nat → Prop} {A : Option Addr} {c : Nat} (hx : a.eval x = .slice A ys.length c) (hS : Sl E w S A c ys) (h63 : xs.length + ys.length ≤ maxLen) (hbytes : (xs.length + ys.length) * bytes ≤ 140737488355328) (hbase : base ≤ w.heap.size)
    (h : ∀ v' w', Row E enc e w' base v' (xs ++ ys) → w.grownBy w' v.ownBlock → (v'.ownBlock = v.ownBlock ∨ v'.ownBlock = some w.heap.size) → wpList P ops Q rest (a.put o.dst v') w') :
    wpList P ops Q (o :: rest) a w := by
  refine wpList_plain hgd fun K hK => ?_
  obtain ⟨v', w', hr, h2, h3, h4⟩ := run_append_row hf he o.type hR hS h63 hbytes hbase
  unfold Oper.wp execOp
  simp only [ho, resolve, invoke, builtin, Sem.run_bind, Sem.run_pure, Result.andThen_ok, List.map_toArray, List.map_cons, List.map_nil, hs, hx, hr]
  exact hK _ _ (h v' w' h2 h3 h4)

theorem So.take {α : Type} {E : Enc α} {w : World} {S : Nat → Prop} {A : Option Addr} {c : Nat} {xs : List α} (h : So E w S A c xs) (k : Nat) : So E w S A c (xs.take k) :=
  ⟨by have := h.1; rw [List.length_take]; omega, h.2.1, fun hn => by
    obtain ⟨b, off, t, cur, T, hA, hb, hB, hT, hd, hc⟩ := h.2.2 (by rintro rfl; simp at hn)
    refine ⟨b, off, t, cur, T, hA, hb, hB, hT, hd, fun i x hx => hc i x ?_⟩
    rw [List.getElem?_take] at hx
    split at hx
    · exact hx
    · cases hx⟩

theorem Sl.take {α : Type} {E : Enc α} {w : World} {S : Nat → Prop} {A : Option Addr} {c : Nat} {xs : List α} (h : Sl E w S A c xs) (k : Nat) : Sl E w S A c (xs.take k) :=
  ⟨by have := h.1; rw [List.length_take]; omega, h.2.1, fun hn => by
    obtain ⟨b, off, hA, hb, hc⟩ := h.2.2 (by rintro rfl; simp at hn)
    refine ⟨b, off, hA, hb, fun i x hx => hc i x ?_⟩
    rw [List.getElem?_take] at hx
    split at hx
    · exact hx
    · cases hx⟩

theorem So.drop1 {α : Type} {E : Enc α} {w : World} {S : Nat → Prop} {b off : Nat} {c : Nat} {xs : List α} (h : So E w S (some ⟨b, off, none⟩) c xs) (k : Nat) : So E w S (some ⟨b, off + k * E.size, none⟩) (c - k) (xs.drop k) :=
  ⟨by have := h.1; rw [List.length_drop]; omega, by have := h.2.1; omega, fun hn => by
    obtain ⟨b', off', t, cur, T, hA, hb, hB, hT, hd, hc⟩ := h.2.2 (by rintro rfl; simp at hn)
    simp only [Option.some.injEq, Addr.mk.injEq, and_true] at hA
    obtain ⟨rfl, rfl⟩ := hA
    refine ⟨b, _, t, cur, fun i => T (k + i), rfl, hb, hB, fun i => hT _, fun i j m h1 h2 => by have := hd _ _ _ h1 h2; omega, fun i x hx => ?_⟩
    rw [List.getElem?_drop] at hx
    obtain ⟨es, h1, h2⟩ := hc _ x hx
    refine ⟨es, h1, fun j v hv => ?_⟩
    have := h2 j v hv
    rw [Nat.add_mul, ← Nat.add_assoc] at this
    exact this⟩

theorem Sl.drop1 {α : Type} {E : Enc α} {w : World} {S : Nat → Prop} {b off : Nat} {c : Nat} {xs : List α} (h : Sl E w S (some ⟨b, off, none⟩) c xs) (k : Nat) : Sl E w S (some ⟨b, off + k * E.size, none⟩) (c - k) (xs.drop k) :=
  ⟨by have := h.1; rw [List.length_drop]; omega, by have := h.2.1; omega, fun hn => by
    obtain ⟨b', off', hA, hb, hc⟩ := h.2.2 (by rintro rfl; simp at hn)
    simp only [Option.some.injEq, Addr.mk.injEq, and_true] at hA
    obtain ⟨rfl, rfl⟩ := hA
    refine ⟨b, _, rfl, hb, fun i x hx => ?_⟩
    rw [List.getElem?_drop] at hx
    obtain ⟨es, h1, h2⟩ := hc _ x hx
    refine ⟨es, h1, fun j v hv => ?_⟩
    have := h2 j v hv
    rw [Nat.add_mul, ← Nat.add_assoc] at this
    exact this⟩

def evp (L : List (Nat × Value)) : List (Nat × Operand) → Option (List (Nat × Value))
  | [] => some []
  | (i, x) :: xs => match ev L x, evp L xs with
    | some v, some vs => some ((i, v) :: vs)
    | _, _ => none

theorem evp_map {n : Nat} {L : List (Nat × Value)} {a : Act} (hE : Env n L a) : ∀ (xs : List (Nat × Operand)) (vs : List (Nat × Value)), evp L xs = some vs → (xs.map fun p => (p.1, a.eval p.2)) = vs
  | [], vs, h => by simp [evp] at h; subst h; rfl
  | (i, x) :: xs, vs, h => by
    simp only [evp] at h
    cases h1 : ev L x with
    | none => simp [h1] at h
    | some v =>
      cases h2 : evp L xs with
      | none => simp [h1, h2] at h
      | some us =>
        simp [h1, h2] at h
        subst h
        rw [List.map_cons, hE.ev h1, evp_map hE xs us h2]

theorem foldl_setAll (off : Nat) : ∀ (vs : List Value) (k : Nat) (cs : Array Value), (vs.zipIdx k).foldl (fun cs (p : Value × Nat) => cs.setIfInBounds (off + p.2) p.1) cs = setAll cs (off + k) vs
  | [], _, _ => rfl
  | v :: vs, k, cs => by
    rw [List.zipIdx_cons, List.foldl_cons, foldl_setAll off vs (k + 1)]
    rfl

theorem setAll_split (pre mid post vs : List Value) (h : mid.length = vs.length) : setAll (pre ++ mid ++ post).toArray pre.length vs = (pre ++ vs ++ post).toArray := by
  apply Array.ext_getElem?
  intro i
  rw [get_setAll _ _ _ _ (by simp; omega)]
  by_cases h1 : pre.length ≤ i ∧ i < pre.length + vs.length
  · rw [if_pos h1]
    simp only [List.getElem?_toArray]
    rw [List.append_assoc, List.getElem?_append_right h1.1, List.getElem?_append_left (by omega)]
  · rw [if_neg h1]
    simp only [List.getElem?_toArray, List.append_assoc]
    by_cases h2 : i < pre.length
    · rw [List.getElem?_append_left h2, List.getElem?_append_left h2]
    · rw [List.getElem?_append_right (by omega), List.getElem?_append_right (by omega), List.getElem?_append_right (by omega), List.getElem?_append_right (by omega), h]

def numb (j : Nat) : List Value → List (Nat × Value)
  | [] => []
  | v :: vs => (j, v) :: numb (j + 1) vs

theorem fill_all (sz : Nat) : ∀ (vs : List Value) (j : Nat) (pre post : List Value), pre.length = j * sz → post.length = vs.length * sz → (∀ v ∈ vs, v.cells.size = sz) → Instr.fill (fun i => some (i * sz, sz)) (pre ++ post).toArray (numb j vs) = some (pre ++ (vs.map fun v => v.cells.toList).flatten).toArray
  | [], j, pre, post, _, h2, _ => by
    have : post = [] := List.eq_nil_of_length_eq_zero (by simpa using h2)
    subst this; simp [numb, Instr.fill]
  | v :: vs, j, pre, post, h1, h2, h3 => by
    have hv := h3 v (by simp)
    rw [List.length_cons, Nat.succ_mul] at h2
    have hsp : post = post.take sz ++ post.drop sz := (List.take_append_drop sz post).symm
    have hl : (post.take sz).length = v.cells.toList.length := by rw [List.length_take]; simp [hv]; omega
    have hset := setAll_split pre (post.take sz) (post.drop sz) v.cells.toList hl
    have ih := fill_all sz vs (j + 1) (pre ++ v.cells.toList) (post.drop sz) (by simp [h1, hv, Nat.succ_mul]) (by rw [List.length_drop]; omega) (fun u hu => h3 u (by simp [hu]))
    have hfold : v.cells.zipIdx.foldl (fun cs (p : Value × Nat) => cs.setIfInBounds (j * sz + p.2) p.1) (pre ++ post).toArray = (pre ++ v.cells.toList ++ post.drop sz).toArray := by
      rw [← Array.foldl_toList, Array.toList_zipIdx, foldl_setAll, Nat.add_zero, ← h1, ← hset, List.append_assoc, ← hsp]
    have hle : ¬ ((pre ++ post).toArray.size < j * sz + sz) := by simp; omega
    have hc : (v.cells.size ≠ sz || decide (j * sz + v.cells.size > (pre ++ post).toArray.size)) = false := by
      rw [hv]; simp; omega
    simp only [numb, Instr.fill]
    rw [if_neg (by rw [hc]; simp)]
    rw [show (v.cells.zipIdx.foldl (fun cs x => match x with | (c, j_1) => cs.setIfInBounds (j * sz + j_1) c) (pre ++ post).toArray) = (pre ++ v.cells.toList ++ post.drop sz).toArray from hfold, ih]
    simp

/-- A slice literal, all of its elements given. -/
theorem run_lit {P : Program} {n m : Nat} {a : Act} {L : List (Nat × Value)} {w : World} {t e : TypeId} {sz by_ : Nat} {ps : List (Nat × Operand)} {vs : List Value} {cs : List Value} {d : Option Tmp} {ty : TypeId} {pos : String} {af : Array Edge} {g : Option (Nat × Bool)} (hT : TSl P t e sz by_) (hE : Env n L a) (he : evp L ps = some (numb 0 vs)) (hm : vs.length = m) (hv : ∀ v ∈ vs, v.cells.size = sz) (hcs : (vs.map fun v => v.cells.toList).flatten = cs) (hb : m * sz ≤ 16777216) :
    (execOp a.eval ⟨d, .buildSlice t m ps.toArray, ty, pos, af, g⟩).run P w = .ok (.value (.slice (some ⟨w.heap.size, 0, none⟩) m m)) (w.alloc (.cells cs.toArray e)) := by
  obtain ⟨i, z, e1, e2, e3, e4, e5⟩ := hT.info
  subst hm hcs
  have hE' := evp_map hE ps _ he
  have hb' : ¬ (vs.length * i.size > 2 ^ 24) := by rw [e3]; omega
  have key : ∀ zero : Array Value, Instr.fill (fun i_1 => some (i_1 * i.size, i.size)) ((Array.range (vs.length * i.size)).map (zero[· % zero.size]!)) (numb 0 vs) = some (vs.map fun v => v.cells.toList).flatten.toArray := by
    intro zero
    have := fill_all sz vs 0 [] ((Array.range (vs.length * i.size)).map (zero[· % zero.size]!)).toList (by simp) (by simp [e3]) hv
    simp only [List.nil_append, Array.toArray_toList] at this
    rw [e3] at this ⊢; exact this
  simp only [execOp, Instr.buildSlice, List.map_toArray, hE', Sem.run_bind, run_underlying hT.under, Result.andThen_ok, sizeOf, typeInfo, run_program, e1, Sem.run_pure, hb', if_false]
  by_cases h0 : vs.length * i.size = 0
  · simp [h0, newRow] at key ⊢
    have := key #[]
    simp at this
    simp [this]
  · simp [h0, zeroValue, typeInfo, e1, e2, newRow, key]

theorem lkI {t : Nat} {L : List (Nat × Value)} {q : IntKind} {x y : Int} (h : lk t L = some (.int q x)) (e : x = y) : lk t L = some (.int q y) := e ▸ h

theorem Held.to {M : Nat → Prop} {w0 : World} {rs rs' : List Res} {w : World} (h : Held M w0 rs w) (e : rs = rs') : Held M w0 rs' w := e ▸ h

theorem Held.flatO {M : Nat → Prop} {w0 : World} {rs : List Res} {w : World} (h : Held M w0 rs w) {α : Type} {E : Enc α} {cs : List Value} {x : α} (ho : ∀ W, E.O W Nob cs x) : Held M w0 (rO E Nob cs x :: rs) w := h.new (Below.refl _ _) (rO E Nob cs x) (ho w) fun _ h => h.elim

/-- A literal slice reads as the list of what its elements read as. -/
theorem Held.slLit {M : Nat → Prop} {w0 w : World} {rs : List Res} {α : Type} {E : Enc α} {g : Nat} {t : TypeId} {css : List (List Value)} {xs : List α} (h : Held M w0 rs w) {i : Nat} (hi : rs[i]? = some (rBlk g t css.flatten)) (hl : css.length = xs.length) (hm : xs.length ≤ maxLen) (hR : ∀ (j : Nat) (x : α), xs[j]? = some x → ∃ es, css[j]? = some es ∧ E.R w (Old w) es x) : Sl E w (Old w) (some ⟨g, 0, none⟩) xs.length xs := by
  have hB : Blk w g t css.flatten.toArray := h.get hi
  refine ⟨Nat.le_refl _, hm, fun _ => ⟨g, 0, rfl, Blk.lt hB, fun j x hx => ?_⟩⟩
  obtain ⟨es, h1, h2⟩ := hR j x hx
  refine ⟨es, h2, fun q v hv => ?_⟩
  have hsz : ∀ es ∈ css, es.length = E.size := fun es hes => by
    obtain ⟨m, hm', rfl⟩ := List.getElem_of_mem hes
    obtain ⟨es', h3, h4⟩ := hR m xs[m] (List.getElem?_eq_getElem (by omega))
    rw [List.getElem?_eq_getElem hm'] at h3
    simp at h3; rw [h3]; exact E.len h4
  have hq : q < E.size := by
    have := (List.getElem?_eq_some_iff.1 hv).1
    rw [hsz es (List.mem_of_getElem? h1)] at this; exact this
  have := flatten_at E.size css hsz j es h1 q hq
  rw [Nat.zero_add, hB.cell, List.getElem?_toArray, this]; exact hv

/-- A whole slice of flat elements is appended. -/
theorem st_appS {P : Program} {ops : Array Oper} {Q : Exit → Act → World → Prop} {a : Act} {w : World} {K : Act → World → Prop} {n d : Nat} {L : List (Nat × Value)} {M : Nat → Prop} {w0 : World} {rs rs' : List Res} {α : Type} {E : Enc α} {enc : α → List Value} {t e : TypeId} {bytes : Nat} {S : Nat → Prop} {A B : Option Addr} {c c2 : Nat} {xs ys : List α} {x1 x2 : Operand} {ty : TypeId} {pos : String} {af : Array Edge} {gd : Option (Nat × Bool)} (hf : Flat E enc) (hE : Env n L a) (hH : Held M w0 rs w) (he : TSl P t e E.size bytes) (is : List Nat) (hn1 : is.Nodup) (his : pick rs is = some (rVec E e S A c xs :: rs'))
    (hx1 : ev L x1 = some (.slice A xs.length c)) (hx2 : ev L x2 = some (.slice B ys.length c2)) (hS : Sl E w (Old w) B c2 ys) (h63 : xs.length + ys.length ≤ maxLen) (hbytes : (xs.length + ys.length) * bytes ≤ 140737488355328) (hw : Region.wanted ⟨some d, .call { callee := .builtin .append, args := #[x1, x2], argTypes := #[t, t] }, ty, pos, af, gd⟩ (yielded ops a.tmps) = true) (hn : Nat.blt d n = true)
    (k : ∀ A' c' S' a' w', Env n ((d, .slice A' (xs ++ ys).length c') :: L) a' → Held M w0 (rVec E e S' A' c' (xs ++ ys) :: rs') w' → K a' w') : Stp P ops Q ⟨some d, .call { callee := .builtin .append, args := #[x1, x2], argTypes := #[t, t] }, ty, pos, af, gd⟩ a w K := by
  have h := hH.sel is hn1 his
  by_cases hy : ys = []
  · subst hy
    obtain ⟨i, z, hi, hz0, hz1, hz2, hz3⟩ := he.info
    obtain ⟨css, T, k1, k2, k3⟩ := h.ok _ (List.mem_cons_self)
    have hcap : xs.length ≤ c := by
      rcases k2.2 with ⟨q, _⟩ | ⟨g, cap, cur, q, _, _, hle, _⟩
      · simp only [Value.slice.injEq] at q; omega
      · simp only [Value.slice.injEq] at q; omega
    have hr : (Builtin.append_ #[t, t] ty #[.slice A xs.length c, .slice B 0 c2]).run P w = .ok (.slice A xs.length c) w := by
      cases A with
      | none => cases B <;> simp [Builtin.append_, run_underlying he.under, sizeOf, typeInfo, hi, Builtin.lenOf, Builtin.firstCells, loadCells, loadCellsFrom, hcap]
      | some ad => cases B <;> simp [Builtin.append_, run_underlying he.under, sizeOf, typeInfo, hi, Builtin.lenOf, Builtin.firstCells, loadCells, loadCellsFrom, hcap, storeCells]
    rw [List.append_nil] at k
    refine st_val hE hw ?_ rfl hn fun a' hE' => k A c S a' w hE' h
    simp only [List.length_nil] at hx2
    simp only [execOp, resolve, invoke, builtin, Sem.run_bind, Sem.run_pure, Result.andThen_ok, List.map_toArray, List.map_cons, List.map_nil, hE.ev hx1, hE.ev hx2, hr]
  · obtain ⟨b, off, rfl, _⟩ := hS.2.2 hy
    obtain ⟨A', c', S', w', e1, e2, e3, e4⟩ := run_append_vec (U := Nob) he ty h ⟨b, off, none⟩ ys c2 (ys.map enc) (by simp) (fun j u hu => hf.cells hS j u (by rw [List.flatMap_def]; exact hu)) (fun es hes u hu => by
        obtain ⟨y, _, rfl⟩ := List.mem_map.1 hes
        exact hf.one y u hu)
      (fun _ _ => False) (fun i b hb => hb.elim) (fun i j b hi hj => hi.elim) (fun i z hz => ⟨enc z, by rw [List.getElem?_map, hz]; rfl, hf.sl hS z (List.mem_of_getElem? hz) w⟩) (fun b hb => hb.elim) h63 hbytes
    have h1 : Held M w0 (rVec E e S A c xs :: ⟨Nob, fun _ => True, fun _ _ _ _ => trivial⟩ :: rs') w := by
      refine ⟨h.chg, ?_, ?_, ?_⟩
      · intro r hr
        simp only [List.mem_cons] at hr
        rcases hr with rfl | rfl | hr
        · exact h.ok _ (by simp)
        · trivial
        · exact h.ok _ (by simp [hr])
      · intro r hr
        simp only [List.mem_cons] at hr
        rcases hr with rfl | rfl | hr
        · exact h.rng _ (by simp)
        · exact fun b hb => hb.elim
        · exact h.rng _ (by simp [hr])
      · have h5 := List.pairwise_cons.1 h.sep
        refine List.pairwise_cons.2 ⟨fun s hs b hb => ?_, List.pairwise_cons.2 ⟨fun s hs b hb => hb.elim, h5.2⟩⟩
        rcases List.mem_cons.1 hs with rfl | hs
        · exact fun h => h.elim
        · exact h5.1 s hs b hb
    have h2 : Held M w0 (rVec E e S' A' c' (xs ++ ys) :: rs') w' := h1.mut2 e3 (rVec E e S' A' c' (xs ++ ys)) e2 (fun b hb => by
      rcases e4 b hb with q | q | q
      · exact .inl q
      · exact q.elim
      · exact .inr (.inr q))
    refine st_val hE hw ?_ rfl hn fun a' hE' => k A' c' S' a' w' hE' h2
    simp only [execOp, resolve, invoke, builtin, Sem.run_bind, Sem.run_pure, Result.andThen_ok, List.map_toArray, List.map_cons, List.map_nil, hE.ev hx1, hE.ev hx2, e1]

theorem tv_parts {P : Program} {t : TypeId} {z : Value} {n : Nat} (h : (P.info? t).map (fun i => (i.zero, i.size)) = some (some z, n)) : ∃ i, P.info? t = some i ∧ i.zero = some z ∧ i.size = n := by
  cases hi : P.info? t with
  | none => rw [hi] at h; cases h
  | some i =>
    rw [hi] at h
    simp only [Option.map_some, Option.some.injEq, Prod.mk.injEq] at h
    exact ⟨i, rfl, h.1, h.2⟩

theorem ts_parts {P : Program} {t : TypeId} {z : Value} {n b : Nat} (h : (P.info? t).map (fun i => (i.zero, i.size, i.bytes)) = some (some z, n, b)) : ∃ i, P.info? t = some i ∧ i.zero = some z ∧ i.size = n ∧ i.bytes = b := by
  cases hi : P.info? t with
  | none => rw [hi] at h; cases h
  | some i =>
    rw [hi] at h
    simp only [Option.map_some, Option.some.injEq, Prod.mk.injEq] at h
    exact ⟨i, rfl, h.1, h.2.1, h.2.2⟩

/-- The address of a slice cut at l. -/
def cutA (A : Option Addr) (c l sz : Nat) : Option Addr := if c = l then A else A.map fun a => a.add (l * sz)

theorem Sl.cutD {α : Type} {E : Enc α} {w : World} {S : Nat → Prop} {A : Option Addr} {c : Nat} {xs : List α} (h : Sl E w S A c xs) (l : Nat) : Sl E w S (cutA A c l E.size) (c - l) (xs.drop l) := by
  unfold cutA
  split
  · next hc =>
    rw [List.drop_eq_nil_of_le (by have := h.1; omega)]
    exact Sl.nil (by have := h.2.1; omega)
  · by_cases hx : xs = []
    · subst hx; rw [List.drop_nil]; exact Sl.nil (by have := h.2.1; omega)
    · obtain ⟨b, off, rfl, _⟩ := h.2.2 hx
      simp only [Option.map_some, add_none]
      exact h.drop1 l

theorem So.cutD {α : Type} {E : Enc α} {w : World} {S : Nat → Prop} {A : Option Addr} {c : Nat} {xs : List α} (h : So E w S A c xs) (l : Nat) : So E w S (cutA A c l E.size) (c - l) (xs.drop l) := by
  unfold cutA
  split
  · next hc =>
    rw [List.drop_eq_nil_of_le (by have := h.1; omega)]
    exact So.nil (by have := h.2.1; omega)
  · by_cases hx : xs = []
    · subst hx; rw [List.drop_nil]; exact So.nil (by have := h.2.1; omega)
    · obtain ⟨b, off, _, _, _, rfl, _⟩ := h.2.2 hx
      simp only [Option.map_some, add_none]
      exact h.drop1 l

theorem x_sliceL {P : Program} {S : World → Prop} {L : List (Nat × Value)} {d : Option Tmp} {x lo : Operand} {t e : TypeId} {sz by_ : Nat} {A : Option Addr} {n c k r : Nat} {m : Int} {q : IntKind} {ty : TypeId} {pos : String} {af : Array Edge} {g : Option (Nat × Bool)} (ht : TSl P t e sz by_) (hx : ev L x = some (.slice A n c)) (hlo : ev L lo = some (.int q m)) (hm : m = (k : Int)) (hk : k ≤ n) (hr : n - k = r) : XS P S L ⟨d, .slice t x (some lo) none none, ty, pos, af, g⟩ (.slice (cutA A c k sz) r (c - k)) := fun _ _ w hE _ => by
  obtain ⟨i, z, h1, _, h2, _⟩ := ht.info
  subst hm h2 hr
  have h3 : (0 : Int) ≤ (k : Int) ∧ (k : Int) ≤ (n : Int) := by omega
  simp [execOp, hE.ev hx, hE.ev hlo, Instr.sliceAt, Instr.slice, run_underlying ht.under, Instr.sliceBounds, Instr.sliceBound, asIntOf, sizeOf, typeInfo, h1, hk, cutA]

theorem x_sliceH {P : Program} {S : World → Prop} {L : List (Nat × Value)} {d : Option Tmp} {x hi : Operand} {t e : TypeId} {sz by_ : Nat} {A : Option Addr} {n c k r : Nat} {m : Int} {q : IntKind} {ty : TypeId} {pos : String} {af : Array Edge} {g : Option (Nat × Bool)} (ht : TSl P t e sz by_) (hx : ev L x = some (.slice A n c)) (hhi : ev L hi = some (.int q m)) (hm : m = (k : Int)) (hk : k ≤ c) (hr : k = r) : XS P S L ⟨d, .slice t x none (some hi) none, ty, pos, af, g⟩ (.slice A r c) := fun _ _ w hE _ => by
  obtain ⟨i, z, h1, _, h2, _⟩ := ht.info
  subst hm h2 hr
  have h3 : (0 : Int) ≤ (k : Int) ∧ (k : Int) ≤ (c : Int) := by omega
  simp [execOp, hE.ev hx, hE.ev hhi, Instr.sliceAt, Instr.slice, run_underlying ht.under, Instr.sliceBounds, Instr.sliceBound, asIntOf, sizeOf, typeInfo, h1, hk]
  intro _
  cases A with
  | none => rfl
  | some a => simp [Addr.add]

theorem Env.castI {n t : Nat} {L : List (Nat × Value)} {a : Act} {q : IntKind} {x y : Int} (h : Env n L a) (hl : lk t L = some (.int q x)) (e : x = y) : Env n ((t, .int q y) :: L) a :=
  h.sub' fun s v hv => by
    simp only [lk] at hv
    by_cases hs : Nat.beq s t = true
    · rw [hs] at hv
      have hs' := Nat.eq_of_beq_eq_true hs
      subst hs' e
      simp at hv
      rw [hl, hv]
    · have hs' : Nat.beq s t = false := Bool.eq_false_iff.2 hs
      rw [hs'] at hv; exact hv

/-- A captured variable's cell, as a closure sees it. -/
theorem Held.capB {M : Nat → Prop} {w0 : World} {rs : List Res} {w W : World} {g : Nat} {t : TypeId} {cs : List Value} (h : Held M w0 rs w) (i : Nat) (hi : rs[i]? = some (rBlk g t cs)) (hb : Below w.heap.size w W) : ∀ j v, cs[j]? = some v → W.cell? ⟨g, 0 + j, none⟩ = some v := fun j v hv => by
  have hlt := (h.rng _ (List.mem_of_getElem? hi) g rfl).2
  rw [hb.cell (p := ⟨g, 0 + j, none⟩) hlt]
  exact c_blkN i hi w h j v hv

theorem Env.castS {n t m m' c : Nat} {A : Option Addr} {L : List (Nat × Value)} {a : Act} (h : Env n L a) (hl : lk t L = some (.slice A m c)) (e : m = m') : Env n ((t, .slice A m' c) :: L) a :=
  h.sub' fun s v hv => by
    simp only [lk] at hv
    by_cases hs : Nat.beq s t = true
    · rw [hs] at hv
      have hs' := Nat.eq_of_beq_eq_true hs
      subst hs' e
      simp at hv
      rw [hl, hv]
    · have hs' : Nat.beq s t = false := Bool.eq_false_iff.2 hs
      rw [hs'] at hv; exact hv

/-- What was there, outside M. -/
def Out (M : Nat → Prop) (w : World) (b : Nat) : Prop := b < w.heap.size ∧ ¬ M b

/-- The blocks of some parts. -/
def Foot (xs : List Res) (b : Nat) : Prop := ∃ r ∈ xs, r.S b

theorem Held.startM {w : World} {α : Type} {E : Enc α} {S : Nat → Prop} {cs : List Value} {x : α} (ho : E.O w S cs x) (hS : ∀ b, S b → b < w.heap.size) : Held S w [rO E S cs x] w :=
  ⟨Chg.refl _ _, (fun r hr => by simp at hr; subst hr; exact ho), (fun r hr b hb => by simp at hr; subst hr; exact ⟨.inl hb, hS b hb⟩), by simp⟩

theorem Held.focus {M0 : Nat → Prop} {w0 : World} {xs rs : List Res} {w : World} (h : Held M0 w0 (xs ++ rs) w) : Held (Foot xs) w xs w :=
  ⟨Chg.refl _ _, fun r hr => h.ok r (by simp [hr]), fun r hr b hb => ⟨.inl ⟨r, hr, hb⟩, (h.rng r (by simp [hr]) b hb).2⟩, (List.pairwise_append.1 h.sep).1⟩

theorem Held.back {M0 : Nat → Prop} {w0 : World} {xs ys rs : List Res} {w w' : World} (h : Held M0 w0 (xs ++ rs) w) (h' : Held (Foot xs) w ys w') : Held M0 w0 (ys ++ rs) w' where
  chg := by
    refine ⟨h'.chg.os.trans h.chg.os, h'.chg.tape.trans h.chg.tape, h'.chg.output.trans h.chg.output, Nat.le_trans h.chg.size h'.chg.size, fun k hk hM => ?_⟩
    refine (h'.chg.block k (Nat.lt_of_lt_of_le hk h.chg.size) ?_).trans (h.chg.block k hk hM)
    rintro ⟨r, hr, hb⟩
    rcases (h.rng r (by simp [hr]) k hb).1 with q | q
    · exact hM q
    · omega
  ok := by
    intro r hr
    rcases List.mem_append.1 hr with hr | hr
    · exact h'.ok r hr
    · refine r.loc w w' (fun b hb => h'.chg.block b (h.rng r (by simp [hr]) b hb).2 ?_) (h.ok r (by simp [hr]))
      rintro ⟨s, hs, hb'⟩
      exact (List.pairwise_append.1 h.sep).2.2 s hs r hr b hb' hb
  rng := by
    intro r hr b hb
    rcases List.mem_append.1 hr with hr | hr
    · obtain ⟨h1, h2⟩ := h'.rng r hr b hb
      refine ⟨?_, h2⟩
      rcases h1 with ⟨s, hs, hb'⟩ | h1
      · exact (h.rng s (by simp [hs]) b hb').1
      · exact .inr (Nat.le_trans h.size h1)
    · have h1 := h.rng r (by simp [hr]) b hb
      exact ⟨h1.1, Nat.lt_of_lt_of_le h1.2 h'.chg.size⟩
  sep := by
    refine List.pairwise_append.2 ⟨h'.sep, (List.pairwise_append.1 h.sep).2.1, fun r hr s hs b hb hb' => ?_⟩
    rcases (h'.rng r hr b hb).1 with ⟨q, hq, hb2⟩ | h1
    · exact (List.pairwise_append.1 h.sep).2.2 q hq s hs b hb2 hb'
    · have := (h.rng s (by simp [hs]) b hb').2; omega

theorem Held.oldM {M : Nat → Prop} {w0 : World} {rs : List Res} {w : World} {α : Type} {E : Enc α} {A : Option Addr} {c : Nat} {xs : List α} (h : Held M w0 rs w) (hs : Sl E w0 (Out M w0) A c xs) : Sl E w (Old w) A c xs :=
  (hs.keep (fun p hp => World.cell?_of_block (w := w0) (h.chg.block p.block hp.1 hp.2))).more fun b hb => Nat.lt_of_lt_of_le hb.1 h.chg.size

theorem Held.oldRM {M : Nat → Prop} {w0 : World} {rs : List Res} {w : World} {α : Type} {E : Enc α} {cs : List Value} {x : α} (h : Held M w0 rs w) (hs : E.R w0 (Out M w0) cs x) : E.R w (Old w) cs x :=
  E.more (E.keep hs (fun p hp => World.cell?_of_block (w := w0) (h.chg.block p.block hp.1 hp.2))) fun b hb => Nat.lt_of_lt_of_le hb.1 h.chg.size

/-- A borrowed slice, as a callee that rewrites xs sees it. -/
theorem Held.lend {w0 : World} {xs rs : List Res} {w : World} {α : Type} {E : Enc α} {A : Option Addr} {c : Nat} {zs : List α} (h : Held Nob w0 (xs ++ rs) w) (hs : Sl E w0 (Old w0) A c zs) : Sl E w (Out (Foot xs) w) A c zs :=
  (hs.keep (fun p hp => h.cell0 hp fun h => h)).more fun b hb => ⟨Nat.lt_of_lt_of_le hb h.size, by
    rintro ⟨r, hr, hb'⟩
    rcases (h.rng r (by simp [hr]) b hb').1 with q | q
    · exact q.elim
    · have : b < w0.heap.size := hb
      omega⟩

theorem Held.lendM {M : Nat → Prop} {w0 : World} {xs rs : List Res} {w : World} {α : Type} {E : Enc α} {A : Option Addr} {c : Nat} {zs : List α} (h : Held M w0 (xs ++ rs) w) (hs : Sl E w0 (Out M w0) A c zs) : Sl E w (Out (Foot xs) w) A c zs :=
  (hs.keep (fun p hp => h.cell0 hp.1 hp.2)).more fun b hb => ⟨Nat.lt_of_lt_of_le hb.1 h.size, by
    rintro ⟨r, hr, hb'⟩
    rcases (h.rng r (by simp [hr]) b hb').1 with q | q
    · exact hb.2 q
    · have : b < w0.heap.size := hb.1
      omega⟩

/-- A part that is owned, as a callee that rewrites other parts sees it. -/
theorem Held.lendR {M : Nat → Prop} {w0 : World} {xs rs : List Res} {w : World} {α : Type} {E : Enc α} {S : Nat → Prop} {cs : List Value} {x : α} (h : Held M w0 (xs ++ rs) w) {i : Nat} (hi : rs[i]? = some (rO E S cs x)) : E.R w (Out (Foot xs) w) cs x :=
  E.more (E.read (h.ok _ (List.mem_append_right _ (List.mem_of_getElem? hi)))) fun b hb => ⟨(h.rng _ (List.mem_append_right _ (List.mem_of_getElem? hi)) b hb).2, by
    rintro ⟨r, hr, hb'⟩
    exact (List.pairwise_append.1 h.sep).2.2 r hr _ (List.mem_of_getElem? hi) b hb' hb⟩

theorem Held.lendO {w0 : World} {xs rs : List Res} {w : World} {α : Type} {E : Enc α} {cs : List Value} {x : α} (h : Held Nob w0 (xs ++ rs) w) (hs : E.R w0 (Old w0) cs x) : E.R w (Out (Foot xs) w) cs x :=
  E.more (E.keep hs (fun p hp => h.cell0 hp fun h => h)) fun b hb => ⟨Nat.lt_of_lt_of_le hb h.size, by
    rintro ⟨r, hr, hb'⟩
    rcases (h.rng r (by simp [hr]) b hb').1 with q | q
    · exact q.elim
    · have : b < w0.heap.size := hb
      omega⟩

theorem Held.lendOM {M : Nat → Prop} {w0 : World} {xs rs : List Res} {w : World} {α : Type} {E : Enc α} {cs : List Value} {x : α} (h : Held M w0 (xs ++ rs) w) (hs : E.R w0 (Out M w0) cs x) : E.R w (Out (Foot xs) w) cs x :=
  E.more (E.keep hs (fun p hp => h.cell0 hp.1 hp.2)) fun b hb => ⟨Nat.lt_of_lt_of_le hb.1 h.size, by
    rintro ⟨r, hr, hb'⟩
    rcases (h.rng r (by simp [hr]) b hb').1 with q | q
    · exact hb.2 q
    · have : b < w0.heap.size := hb.1
      omega⟩

theorem Held.nfB {M : Nat → Prop} {w0 : World} {xs rs : List Res} {w : World} (h : Held M w0 (xs ++ rs) w) {i g : Nat} {t : TypeId} {cs : List Value} (hi : rs[i]? = some (rBlk g t cs)) : ¬ Foot xs g := by
  rintro ⟨r, hr, hb'⟩
  exact (List.pairwise_append.1 h.sep).2.2 r hr _ (List.mem_of_getElem? hi) g hb' rfl

theorem block_of_cell {w : World} {b o : Nat} {v : Value} (h : w.cell? ⟨b, o, none⟩ = some v) : b < w.heap.size := by
  rcases Nat.lt_or_ge b w.heap.size with h1 | h1
  · exact h1
  · exfalso
    unfold World.cell? at h
    simp [Array.getElem?_eq_none h1] at h

theorem Held.nfO {w0 : World} {xs rs : List Res} {w : World} (h : Held Nob w0 (xs ++ rs) w) {b o : Nat} {v : Value} (hc : w0.cell? ⟨b, o, none⟩ = some v) : ¬ Foot xs b := by
  rintro ⟨r, hr, hb'⟩
  rcases (h.rng r (by simp [hr]) b hb').1 with q | q
  · exact q.elim
  · have := block_of_cell hc
    omega

theorem Held.nfOM {M : Nat → Prop} {w0 : World} {xs rs : List Res} {w : World} (h : Held M w0 (xs ++ rs) w) {b o : Nat} {v : Value} (hM : ¬ M b) (hc : w0.cell? ⟨b, o, none⟩ = some v) : ¬ Foot xs b := by
  rintro ⟨r, hr, hb'⟩
  rcases (h.rng r (by simp [hr]) b hb').1 with q | q
  · exact hM q
  · have := block_of_cell hc
    omega

/-- The flat part in front given up. -/
theorem Held.unF {M : Nat → Prop} {w0 : World} {rs : List Res} {w : World} {α β : Type} {E : Enc α} {F : Enc β} {S : Nat → Prop} {v : Value} {cs : List Value} {x : α × β} (h1 : E.size = 1) (h : Held M w0 (rO (ePr E F) S (v :: cs) x :: rs) w) : Held M w0 (rO F S cs x.2 :: rs) w := by
  refine h.turn _ ?_ fun _ hb => hb
  rintro ⟨c1, c2, S1, S2, he, k1, k2, o1, o2⟩
  have hl := E.len (E.read o1)
  rw [h1] at hl
  obtain ⟨u, rfl⟩ := List.length_eq_one_iff.1 hl
  simp at he
  obtain ⟨_, rfl⟩ := he
  exact F.omore o2 k2

theorem Held.unP {M : Nat → Prop} {w0 : World} {rs : List Res} {w : World} {α β : Type} {E : Enc α} {F : Enc β} {S : Nat → Prop} {v : Value} {cs : List Value} {x : α × β} (h1 : E.size = 1) (h : Held M w0 (rO (ePr E F) S (v :: cs) x :: rs) w) : ∃ S1 S2, Held M w0 (rO E S1 [v] x.1 :: rO F S2 cs x.2 :: rs) w := by
  obtain ⟨c1, c2, S1, S2, he, k1, k2, o1, o2⟩ := h.ok _ (List.mem_cons_self)
  have hl := E.len (E.read o1)
  rw [h1] at hl
  obtain ⟨u, rfl⟩ := List.length_eq_one_iff.1 hl
  simp at he
  obtain ⟨rfl, rfl⟩ := he
  have hs := List.pairwise_cons.1 h.sep
  refine ⟨S1, S2, h.chg, ?_, ?_, ?_⟩
  · intro r hr
    simp only [List.mem_cons] at hr
    rcases hr with rfl | rfl | hr
    · exact o1
    · exact o2
    · exact h.ok r (by simp [hr])
  · intro r hr b hb
    simp only [List.mem_cons] at hr
    rcases hr with rfl | rfl | hr
    · exact h.rng _ (List.mem_cons_self) b (k1 b hb).1
    · exact h.rng _ (List.mem_cons_self) b (k2 b hb)
    · exact h.rng r (by simp [hr]) b hb
  · refine List.pairwise_cons.2 ⟨fun r hr b hb hb' => ?_, List.pairwise_cons.2 ⟨fun r hr b hb hb' => hs.1 r hr b (k2 b hb) hb', hs.2⟩⟩
    rcases List.mem_cons.1 hr with rfl | hr
    · exact (k1 b hb).2 hb'
    · exact hs.1 r hr b (k1 b hb).1 hb'

/-- An owned slice with one element laid open: its cells es; what the element owns (T) is held apart. -/
def Foc {α : Type} (E : Enc α) (w : World) (S : Nat → Prop) (b off c : Nat) (xs : List α) (k : Nat) (es : List Value) : Prop :=
  k < xs.length ∧ xs.length ≤ c ∧ c ≤ maxLen ∧ S b ∧ es.length = E.size ∧ ∃ (t : TypeId) (cur : Array Value) (T : Nat → Nat → Prop), Blk w b t cur ∧ (∀ i m, T i m → S m ∧ m ≠ b) ∧ (∀ i j m, T i m → T j m → i = j) ∧
    (∀ j v, es[j]? = some v → cur[off + k * E.size + j]? = some v) ∧ ∀ (i : Nat) (x : α), i ≠ k → xs[i]? = some x → ∃ us, E.O w (T i) us x ∧ ∀ j v, us[j]? = some v → cur[off + i * E.size + j]? = some v

theorem Foc.keep {α : Type} {E : Enc α} {w w' : World} {S : Nat → Prop} {b off c : Nat} {xs : List α} {k : Nat} {es : List Value} (h : Foc E w S b off c xs k es) (hk : ∀ b, S b → w'.heap[b]? = w.heap[b]?) : Foc E w' S b off c xs k es := by
  obtain ⟨h1, h2, h3, h4, h5, t, cur, T, hB, hT, hd, hc, hr⟩ := h
  refine ⟨h1, h2, h3, h4, h5, t, cur, T, (hk b h4).trans hB, hT, hd, hc, fun i x hi hx => ?_⟩
  obtain ⟨us, q1, q2⟩ := hr i x hi hx
  exact ⟨us, E.okeep q1 fun m hm => hk m (hT i m hm).1, q2⟩

def rFoc {α : Type} (E : Enc α) (S : Nat → Prop) (b off c : Nat) (xs : List α) (k : Nat) (es : List Value) : Res := ⟨S, fun w => Foc E w S b off c xs k es, fun _ _ h hf => hf.keep h⟩

theorem Held.open {M : Nat → Prop} {w0 : World} {rs : List Res} {w : World} {α : Type} {E : Enc α} {S : Nat → Prop} {A : Option Addr} {c : Nat} {xs : List α} (h : Held M w0 (rSo E S A c xs :: rs) w) {k : Nat} (hk : k < xs.length) :
    ∃ b off es T, A = some ⟨b, off, none⟩ ∧ E.R w (Old w) es xs[k] ∧ (∀ m, T m → S m ∧ m ≠ b) ∧ Held M w0 (rFoc E (fun m => S m ∧ ¬ T m) b off c xs k es :: rO E T es xs[k] :: rs) w := by
  have hso := so_of_o (h.ok _ (List.mem_cons_self))
  have hrng := h.rng _ (List.mem_cons_self)
  obtain ⟨b, off, t, cur, T, hA, hb, hB, hT, hd, hc⟩ := hso.2.2 (by intro e; subst e; simp at hk)
  obtain ⟨es, h1, h2⟩ := hc k xs[k] (List.getElem?_eq_getElem hk)
  have hs := List.pairwise_cons.1 h.sep
  refine ⟨b, off, es, T k, hA, E.more (E.read h1) (fun m hm => (hrng m (hT k m hm).1).2), fun m hm => hT k m hm, h.chg, ?_, ?_, ?_⟩
  · intro r hr
    simp only [List.mem_cons] at hr
    rcases hr with rfl | rfl | hr
    · refine ⟨hk, hso.1, hso.2.1, ⟨hb, fun hm => (hT k b hm).2 rfl⟩, E.len (E.read h1), t, cur, fun i m => i ≠ k ∧ T i m, hB, fun i m hm => ⟨⟨(hT i m hm.2).1, fun hm' => hm.1 (hd i k m hm.2 hm')⟩, (hT i m hm.2).2⟩, fun i j m h3 h4 => hd i j m h3.2 h4.2, h2, fun i x hi hx => ?_⟩
      obtain ⟨us, q1, q2⟩ := hc i x hx
      exact ⟨us, E.omore q1 fun m hm => ⟨hi, hm⟩, q2⟩
    · exact h1
    · exact h.ok r (by simp [hr])
  · intro r hr m hm
    simp only [List.mem_cons] at hr
    rcases hr with rfl | rfl | hr
    · exact hrng m hm.1
    · exact hrng m (hT k m hm).1
    · exact h.rng r (by simp [hr]) m hm
  · refine List.pairwise_cons.2 ⟨fun r hr m hm hm' => ?_, List.pairwise_cons.2 ⟨fun r hr m hm hm' => hs.1 r hr m (hT k m hm).1 hm', hs.2⟩⟩
    rcases List.mem_cons.1 hr with rfl | hr
    · exact hm.2 hm'
    · exact hs.1 r hr m hm.1 hm'

theorem Held.shut {M : Nat → Prop} {w0 : World} {rs : List Res} {w : World} {α : Type} {E : Enc α} {S T : Nat → Prop} {b off c k : Nat} {xs : List α} {es : List Value} {y : α} (h : Held M w0 (rFoc E S b off c xs k es :: rO E T es y :: rs) w) : Held M w0 (rSo E (fun m => S m ∨ T m) (some ⟨b, off, none⟩) c (xs.set k y) :: rs) w := by
  refine h.join _ (fun hf ho hd => ?_) fun _ hb => hb
  obtain ⟨h1, h2, h3, h4, h5, t, cur, T', hB, hT, hd', hc, hr⟩ := hf
  refine oSl ⟨by rw [List.length_set]; exact h2, h3, fun _ => ⟨b, off, t, cur, fun i m => (i = k ∧ T m) ∨ (i ≠ k ∧ T' i m), rfl, .inl h4, hB, ?_, ?_, fun i x hx => ?_⟩⟩
  · rintro i m (⟨_, hm⟩ | ⟨_, hm⟩)
    · exact ⟨.inr hm, fun e => hd b h4 (e ▸ hm)⟩
    · exact ⟨.inl (hT i m hm).1, (hT i m hm).2⟩
  · rintro i j m (⟨hi, hm⟩ | ⟨hi, hm⟩) (⟨hj, hm'⟩ | ⟨hj, hm'⟩)
    · rw [hi, hj]
    · exact absurd hm (hd m (hT j m hm').1)
    · exact absurd hm' (hd m (hT i m hm).1)
    · exact hd' i j m hm hm'
  · by_cases e : i = k
    · subst e
      rw [List.getElem?_set_self h1] at hx
      simp at hx; subst hx
      exact ⟨es, E.omore ho fun m hm => .inl ⟨rfl, hm⟩, hc⟩
    · rw [List.getElem?_set_ne (fun h => e h.symm)] at hx
      obtain ⟨us, q1, q2⟩ := hr i x e hx
      exact ⟨us, E.omore q1 fun m hm => .inr ⟨e, hm⟩, q2⟩

theorem c_foc {M : Nat → Prop} {w0 : World} {rs : List Res} {α : Type} {E : Enc α} {S : Nat → Prop} {b off c k : Nat} {xs : List α} {es : List Value} {j : Nat} {v : Value} (i : Nat) (hi : rs[i]? = some (rFoc E S b off c xs k es)) (hv : es[j]? = some v) : ∀ w, Held M w0 rs w → w.cell? ⟨b, off + k * E.size + j, none⟩ = some v := fun w h => by
  obtain ⟨h1, h2, h3, h4, h5, t, cur, T, hB, hT, hd, hc, hr⟩ := h.get hi
  rw [hB.cell]; exact hc j v hv

theorem Held.relen {M : Nat → Prop} {w0 : World} {rs : List Res} {w : World} {α : Type} {E : Enc α} {S : Nat → Prop} {A : Option Addr} {c n : Nat} {xs : List α} (h : Held M w0 (rSo E S A c xs :: rs) w) (hn : xs.length = n) : Held M w0 (rO (eSl E) S [.slice A n c] xs :: rs) w := hn ▸ h

theorem Held.lt {M : Nat → Prop} {w0 : World} {rs : List Res} {w : World} (h : Held M w0 rs w) {i : Nat} {r : Res} (hi : rs[i]? = some r) : ∀ b, r.S b → b < w.heap.size := fun b hb => (h.rng r (List.mem_of_getElem? hi) b hb).2

/-- What a callee made, beside what is held. -/
theorem Held.app {M : Nat → Prop} {w0 : World} {rs qs : List Res} {w w' : World} (h : Held M w0 rs w) (h' : Held Nob w qs w') : Held M w0 (qs ++ rs) w' where
  chg := (h.on h'.below).chg
  ok := by
    intro r hr
    rcases List.mem_append.1 hr with hr | hr
    · exact h'.ok r hr
    · exact (h.on h'.below).ok r hr
  rng := by
    intro r hr b hb
    rcases List.mem_append.1 hr with hr | hr
    · have h1 := h'.rng r hr b hb
      exact ⟨.inr (Nat.le_trans h.size (h1.1.resolve_left fun q => q.elim)), h1.2⟩
    · exact (h.on h'.below).rng r hr b hb
  sep := by
    refine List.pairwise_append.2 ⟨h'.sep, h.sep, fun r hr s hs b hb hb' => ?_⟩
    have h1 := (h'.rng r hr b hb).1.resolve_left fun q => q.elim
    have h2 := (h.rng s hs b hb').2
    omega

/-- Held only if p holds. -/
def rIf (p : Prop) (r : Res) : Res := ⟨r.S, fun w => p → r.φ w, fun w w' h hp hq => r.loc w w' h (hp hq)⟩

theorem Held.toIf {M : Nat → Prop} {w0 : World} {rs : List Res} {r : Res} {w : World} (h : Held M w0 (r :: rs) w) (p : Prop) : Held M w0 (rIf p r :: rs) w :=
  h.turn (rIf p r) (fun hr _ => hr) fun _ h => h

theorem Held.ofIf {M : Nat → Prop} {w0 : World} {rs : List Res} {r : Res} {w : World} {p : Prop} (h : Held M w0 (rIf p r :: rs) w) (hp : p) : Held M w0 (r :: rs) w :=
  h.turn r (fun hr => hr hp) fun _ h => h

theorem Held.noIf {M : Nat → Prop} {w0 : World} {rs : List Res} {w : World} {p : Prop} (h : Held M w0 rs w) {α : Type} {E : Enc α} {A : Option Addr} {c : Nat} {xs : List α} (r : Res) (hp : ¬ p) (hr : r = rSo E Nob A c xs := by rfl) : Held M w0 (rIf p r :: rs) w := by
  subst hr
  exact h.new (Below.refl _ _) (rIf p (rSo E Nob A c xs)) (fun hq => absurd hq hp) fun _ h => h.elim

/-- n cells, as they are. -/
def eRaw (n : Nat) (hn : 0 < n) : Enc (List Value) where
  size := n
  pos := hn
  R := fun _ _ cs x => cs = x ∧ x.length = n ∧ ∀ v ∈ x, v.oneCell' = true
  len := by rintro _ _ _ _ ⟨rfl, h, _⟩; exact h
  keep := fun h _ => h
  more := fun h _ => h
  O := fun _ _ cs x => cs = x ∧ x.length = n ∧ ∀ v ∈ x, v.oneCell' = true
  read := fun h => h
  okeep := fun h _ => h
  omore := fun h _ => h

/-- What the elements own, each for itself. -/
def Els {α : Type} (E : Enc α) (w : World) : (Nat → Prop) → List (List Value × α) → Prop
  | _, [] => True
  | S, p :: ps => ∃ S1 S2 : Nat → Prop, (∀ b, S1 b → S b ∧ ¬ S2 b) ∧ (∀ b, S2 b → S b) ∧ E.O w S1 p.1 p.2 ∧ Els E w S2 ps

theorem Els.keep {α : Type} {E : Enc α} {w w' : World} : ∀ {ps : List (List Value × α)} {S : Nat → Prop}, Els E w S ps → (∀ b, S b → w'.heap[b]? = w.heap[b]?) → Els E w' S ps
  | [], _, _, _ => trivial
  | _ :: _, _, ⟨S1, S2, h1, h2, h3, h4⟩, hk => ⟨S1, S2, h1, h2, E.okeep h3 fun b hb => hk b (h1 b hb).1, Els.keep h4 fun b hb => hk b (h2 b hb)⟩

theorem Els.more {α : Type} {E : Enc α} {w : World} : ∀ {ps : List (List Value × α)} {S S' : Nat → Prop}, Els E w S ps → (∀ b, S b → S' b) → Els E w S' ps
  | [], _, _, _, _ => trivial
  | _ :: _, _, _, ⟨S1, S2, h1, h2, h3, h4⟩, hm => ⟨S1, S2, fun b hb => ⟨hm b (h1 b hb).1, (h1 b hb).2⟩, fun b hb => hm b (h2 b hb), h3, h4⟩

theorem Els.perm {α : Type} {E : Enc α} {w : World} {ps qs : List (List Value × α)} (h : ps.Perm qs) : ∀ S, Els E w S ps → Els E w S qs := by
  induction h with
  | nil => exact fun _ h => h
  | cons p _ ih => rintro S ⟨S1, S2, h1, h2, h3, h4⟩; exact ⟨S1, S2, h1, h2, h3, ih _ h4⟩
  | swap p q ps =>
    rintro S ⟨S1, S2, h1, h2, h3, S3, S4, h5, h6, h7, h8⟩
    refine ⟨S3, fun b => S1 b ∨ S4 b, fun b hb => ⟨h2 b (h5 b hb).1, ?_⟩, ?_, h7, S1, S4, fun b hb => ⟨.inl hb, fun h => (h1 b hb).2 (h6 b h)⟩, fun b hb => .inr hb, h3, h8⟩
    · rintro (h | h)
      · exact (h1 b h).2 (h5 b hb).1
      · exact (h5 b hb).2 h
    · rintro b (h | h)
      · exact (h1 b h).1
      · exact h2 b (h6 b h)
  | trans _ _ i1 i2 => exact fun S h => i2 S (i1 S h)

theorem els_of {α : Type} {E : Enc α} {w : World} : ∀ (ps : List (List Value × α)) (T : Nat → Nat → Prop), (∀ i j b, T i b → T j b → i = j) → (∀ i p, ps[i]? = some p → E.O w (T i) p.1 p.2) → Els E w (fun b => ∃ i, T i b) ps
  | [], _, _, _ => trivial
  | p :: ps, T, hd, h => ⟨T 0, fun b => ∃ i, T (i + 1) b, fun b hb => ⟨⟨0, hb⟩, fun ⟨i, hi⟩ => by have := hd _ _ _ hb hi; omega⟩, fun b ⟨i, hi⟩ => ⟨i + 1, hi⟩, h 0 p rfl, els_of ps (fun i => T (i + 1)) (fun i j b h1 h2 => by have := hd _ _ _ h1 h2; omega) fun i q hq => h (i + 1) q (by simpa using hq)⟩

theorem els_fam {α : Type} {E : Enc α} {w : World} : ∀ (ps : List (List Value × α)) (S : Nat → Prop), Els E w S ps → ∃ T : Nat → Nat → Prop, (∀ i b, T i b → S b) ∧ (∀ i j b, T i b → T j b → i = j) ∧ ∀ i p, ps[i]? = some p → E.O w (T i) p.1 p.2
  | [], _, _ => ⟨fun _ _ => False, fun _ _ h => h.elim, fun _ _ _ h => h.elim, fun i p h => by simp at h⟩
  | p :: ps, S, ⟨S1, S2, h1, h2, h3, h4⟩ => by
    obtain ⟨T, t1, t2, t3⟩ := els_fam ps S2 h4
    refine ⟨fun i => match i with | 0 => S1 | i + 1 => T i, fun i b hb => ?_, fun i j b hi hj => ?_, fun i q hq => ?_⟩
    · cases i with
      | zero => exact (h1 b hb).1
      | succ i => exact h2 b (t1 i b hb)
    · cases i with
      | zero =>
        cases j with
        | zero => rfl
        | succ j => exact absurd (t1 j b hj) (h1 b hi).2
      | succ i =>
        cases j with
        | zero => exact absurd (t1 i b hi) (h1 b hj).2
        | succ j => rw [t2 i j b hi hj]
    · cases i with
      | zero => simp at hq; subst hq; exact h3
      | succ i => exact t3 i q (by simpa using hq)

def rEls {α : Type} (E : Enc α) (S : Nat → Prop) (ps : List (List Value × α)) : Res := ⟨S, fun w => Els E w S ps, fun _ _ h hv => hv.keep h⟩

/-- One part becomes two. -/
theorem Held.cleave {M : Nat → Prop} {w0 : World} {r : Res} {rs : List Res} {w : World} (h : Held M w0 (r :: rs) w) (p q : Res) (hp : p.φ w) (hq : q.φ w) (h1 : ∀ b, p.S b → r.S b) (h2 : ∀ b, q.S b → r.S b) (hd : ∀ b, p.S b → ¬ q.S b) : Held M w0 (p :: q :: rs) w where
  chg := h.chg
  ok := by
    intro x hx
    rcases List.mem_cons.1 hx with rfl | hx
    · exact hp
    rcases List.mem_cons.1 hx with rfl | hx
    · exact hq
    exact h.ok x (by simp [hx])
  rng := by
    intro x hx b hb
    rcases List.mem_cons.1 hx with rfl | hx
    · exact h.rng r (by simp) b (h1 b hb)
    rcases List.mem_cons.1 hx with rfl | hx
    · exact h.rng r (by simp) b (h2 b hb)
    exact h.rng x (by simp [hx]) b hb
  sep := by
    have hs := List.pairwise_cons.1 h.sep
    refine List.pairwise_cons.2 ⟨fun x hx b hb hb' => ?_, List.pairwise_cons.2 ⟨fun x hx b hb hb' => hs.1 x hx b (h2 b hb) hb', hs.2⟩⟩
    rcases List.mem_cons.1 hx with rfl | hx
    · exact hd b hb hb'
    · exact hs.1 x hx b (h1 b hb) hb'

/-- A row taken apart. -/
theorem Held.explode {M : Nat → Prop} {w0 : World} {rs : List Res} {w : World} {α : Type} {E : Enc α} {t : TypeId} {S : Nat → Prop} {A : Option Addr} {c : Nat} {xs : List α} (h : Held M w0 (rVec E t S A c xs :: rs) w) (h1 : ∀ w S es x, E.R w S es x → ∀ v ∈ es, v.oneCell' = true) :
    ∃ css S1 S2, List.length css = xs.length ∧ Held M w0 (rVec (eRaw E.size E.pos) t S1 A c css :: rEls E S2 (css.zip xs) :: rs) w := by
  obtain ⟨css, T, hl, ho, hb, hT, hd, hx⟩ := (h.ok _ List.mem_cons_self : Vec E t w S (.slice A xs.length c) xs)
  refine ⟨css, fun b => Value.ownBlock (.slice A xs.length c) = some b, fun b => ∃ i, T i b, hl, h.cleave _ _ ?_ ?_ (fun b hb' => hb b hb') (fun b ⟨i, hi⟩ => (hT i b hi).1) (fun b hb' ⟨i, hi⟩ => (hT i b hi).2 hb')⟩
  · show Vec (eRaw E.size E.pos) t w _ (.slice A css.length c) css
    rw [hl]
    refine ⟨css, fun _ _ => False, rfl, ?_, fun b hb' => hb', fun _ _ h => h.elim, fun _ _ _ h => h.elim, fun i x hi => ⟨x, hi, rfl, ?_⟩⟩
    · rw [hl]; exact ho
    · have hi' := (List.getElem?_eq_some_iff.1 hi).1
      obtain ⟨es, h2, h3⟩ := hx i xs[i] (List.getElem?_eq_getElem (by omega))
      rw [h2] at hi
      obtain rfl := Option.some.inj hi
      exact ⟨E.len (E.read h3), h1 _ _ _ _ (E.read h3)⟩
  · refine els_of _ T hd fun i p hp => ?_
    rw [List.getElem?_zip_eq_some] at hp
    obtain ⟨es, h2, h3⟩ := hx i p.2 hp.2
    rw [h2] at hp
    rw [← Option.some.inj hp.1]; exact h3

/-- .. and put together again. -/
theorem Held.implode {M : Nat → Prop} {w0 : World} {rs : List Res} {w : World} {α : Type} {E : Enc α} {t : TypeId} {S1 S2 : Nat → Prop} {A : Option Addr} {c : Nat} {css : List (List Value)} {xs : List α} {ps : List (List Value × α)} (h : Held M w0 (rVec (eRaw E.size E.pos) t S1 A c css :: rEls E S2 ps :: rs) w) (hl : css.length = xs.length) (hp : ps.Perm (css.zip xs)) :
    ∃ S, Held M w0 (rVec E t S A c xs :: rs) w := by
  refine ⟨fun b => S1 b ∨ S2 b, h.join _ (fun h1 h2 hd => ?_) fun _ hb => hb⟩
  obtain ⟨css', T', hl', ho, hb, _, _, hx⟩ := (h1 : Vec (eRaw E.size E.pos) t w S1 (.slice A css.length c) css)
  have e : css' = css := List.ext_getElem? fun i => by
    rcases Nat.lt_or_ge i css.length with hi | hi
    · obtain ⟨es, h3, h4⟩ := hx i css[i] (List.getElem?_eq_getElem hi)
      rw [h3, List.getElem?_eq_getElem hi, h4.1]
    · rw [List.getElem?_eq_none (by omega), List.getElem?_eq_none hi]
  subst e
  obtain ⟨T, t1, t2, t3⟩ := els_fam _ _ (Els.perm hp _ (h2 : Els E w S2 ps))
  show Vec E t w _ (.slice A xs.length c) xs
  rw [hl] at ho hb
  refine ⟨css', T, hl, ho, fun b hb' => .inl (hb b hb'), fun i b hi => ⟨.inr (t1 i b hi), fun hb' => hd b (hb b hb') (t1 i b hi)⟩, t2, fun i x hi => ?_⟩
  have hi' := (List.getElem?_eq_some_iff.1 hi).1
  have hc : css'[i]? = some css'[i] := List.getElem?_eq_getElem (by omega)
  exact ⟨css'[i], hc, t3 i (css'[i], x) (List.getElem?_zip_eq_some.2 ⟨hc, hi⟩)⟩

/-- The first element's memory, for itself. -/
theorem Held.peel {M : Nat → Prop} {w0 : World} {rs : List Res} {w : World} {α : Type} {E : Enc α} {S : Nat → Prop} {p : List Value × α} {ps : List (List Value × α)} (h : Held M w0 (rEls E S (p :: ps) :: rs) w) : ∃ S1 S2, Held M w0 (rO E S1 p.1 p.2 :: rEls E S2 ps :: rs) w := by
  obtain ⟨S1, S2, h1, h2, h3, h4⟩ := (h.ok _ List.mem_cons_self : Els E w S (p :: ps))
  exact ⟨S1, S2, h.cleave (rO E S1 p.1 p.2) (rEls E S2 ps) h3 h4 (fun b hb => (h1 b hb).1) h2 fun b hb => (h1 b hb).2⟩

theorem Held.unpeel {M : Nat → Prop} {w0 : World} {rs : List Res} {w : World} {α : Type} {E : Enc α} {S1 S2 : Nat → Prop} {p : List Value × α} {ps : List (List Value × α)} (h : Held M w0 (rO E S1 p.1 p.2 :: rEls E S2 ps :: rs) w) : ∃ S, Held M w0 (rEls E S (p :: ps) :: rs) w :=
  ⟨fun b => S1 b ∨ S2 b, h.join (rEls E _ (p :: ps)) (fun h1 h2 hd => ⟨S1, S2, fun b hb => ⟨.inl hb, hd b hb⟩, fun b hb => .inr hb, h1, h2⟩) fun _ hb => hb⟩

theorem Held.elsPerm {M : Nat → Prop} {w0 : World} {rs : List Res} {w : World} {α : Type} {E : Enc α} {S : Nat → Prop} {ps qs : List (List Value × α)} (h : Held M w0 (rEls E S ps :: rs) w) (hp : ps.Perm qs) : Held M w0 (rEls E S qs :: rs) w :=
  h.turn (rEls E S qs) (fun h1 => Els.perm hp _ h1) fun _ hb => hb

theorem Held.exch {M : Nat → Prop} {w0 : World} {rs : List Res} {w : World} (h : Held M w0 rs w) {i : Nat} {r : Res} (hi : rs[i]? = some r) (r' : Res) (hr : r'.φ w) (hS : ∀ b, r'.S b → r.S b) : Held M w0 (rs.set i r') w :=
  h.mut hi (Chg.refl _ _) r' hr fun b hb => .inl (hS b hb)

theorem Held.elsRd {M : Nat → Prop} {w0 : World} {rs : List Res} {w : World} {α : Type} {E : Enc α} {S : Nat → Prop} {ps : List (List Value × α)} (h : Held M w0 rs w) {i : Nat} (hi : rs[i]? = some (rEls E S ps)) {k : Nat} {es : List Value} {x : α} (hk : ps[k]? = some (es, x)) : E.R w (Old w) es x := by
  obtain ⟨T, t1, t2, t3⟩ := els_fam _ _ (h.get hi : Els E w S ps)
  exact E.more (E.read (t3 k (es, x) hk)) fun b hb => (h.rng _ (List.mem_of_getElem? hi) b (t1 k b hb)).2

theorem raw_vec {n : Nat} {hn : 0 < n} {t : TypeId} {w : World} {S : Nat → Prop} {A : Option Addr} {c : Nat} {css : List (List Value)} (h : Vec (eRaw n hn) t w S (.slice A css.length c) css) (h0 : css ≠ []) :
    ∃ (g : Nat) (cur : Array Value), A = some ⟨g, 0, none⟩ ∧ S g ∧ Blk w g t cur ∧ css.length ≤ c ∧ c ≤ maxLen ∧ cur.size = c * n ∧ cur.toList.take (css.length * n) = css.flatten ∧ (∀ es ∈ css, es.length = n ∧ ∀ v ∈ es, v.oneCell' = true) := by
  obtain ⟨css', T, hl, ho, hb, _, _, hx⟩ := h
  have hx2 : ∀ i (hi : i < css.length), css'[i]? = some css[i] ∧ css[i].length = n ∧ ∀ v ∈ css[i], v.oneCell' = true := fun i hi => by
    obtain ⟨es, h1, h2, h3, h4⟩ := hx i css[i] (List.getElem?_eq_getElem hi)
    subst h2
    exact ⟨h1, h3, h4⟩
  have e : css' = css := List.ext_getElem? fun i => by
    rcases Nat.lt_or_ge i css.length with hi | hi
    · rw [(hx2 i hi).1, List.getElem?_eq_getElem hi]
    · rw [List.getElem?_eq_none (by omega), List.getElem?_eq_none hi]
  subst e
  have hall : ∀ es ∈ css', es.length = n ∧ ∀ v ∈ es, v.oneCell' = true := fun es he => by
    obtain ⟨i, hi, rfl⟩ := List.mem_iff_getElem.1 he
    exact (hx2 i hi).2
  obtain ⟨ho1, ho2⟩ := ho
  rcases ho2 with ⟨h1, h2⟩ | ⟨g, cap, cur, hv, _, hh, h3, h4, h5, h6⟩
  · have hlen : css'.length = 0 := by
      simp only [Value.slice.injEq] at h1
      exact h1.2.1
    exact absurd (List.eq_nil_of_length_eq_zero hlen) h0
  · simp only [Value.slice.injEq] at hv
    obtain ⟨rfl, _, rfl⟩ := hv
    exact ⟨g, cur, rfl, hb g rfl, hh, h3, h4, h5, h6, hall⟩

theorem Held.rawAt {M : Nat → Prop} {w0 : World} {rs : List Res} {w : World} {n : Nat} {hn : 0 < n} {t : TypeId} {S : Nat → Prop} {A : Option Addr} {c : Nat} {css : List (List Value)} (h : Held M w0 rs w) {i : Nat} (hi : rs[i]? = some (rVec (eRaw n hn) t S A c css)) {k : Nat} (hk : k < css.length) : ∃ g, A = some ⟨g, 0, none⟩ := by
  obtain ⟨g, _, hA, _⟩ := raw_vec (h.get hi : Vec (eRaw n hn) t w S (.slice A css.length c) css) (fun e => by rw [e] at hk; exact absurd hk (Nat.not_lt_zero _))
  exact ⟨g, hA⟩

theorem Held.rawLen {M : Nat → Prop} {w0 : World} {rs : List Res} {w : World} {n : Nat} {hn : 0 < n} {t : TypeId} {S : Nat → Prop} {A : Option Addr} {c : Nat} {css : List (List Value)} (h : Held M w0 rs w) {i : Nat} (hi : rs[i]? = some (rVec (eRaw n hn) t S A c css)) : ∀ es ∈ css, es.length = n ∧ ∀ v ∈ es, v.oneCell' = true := by
  intro es he
  obtain ⟨g, _, _, _, _, _, _, _, _, hall⟩ := raw_vec (h.get hi : Vec (eRaw n hn) t w S (.slice A css.length c) css) (fun e => by rw [e] at he; cases he)
  exact hall es he

theorem c_rawN {M : Nat → Prop} {w0 : World} {rs : List Res} {n : Nat} {hn : 0 < n} {t : TypeId} {S : Nat → Prop} {g c : Nat} {css : List (List Value)} {es : List Value} (i : Nat) (hi : rs[i]? = some (rVec (eRaw n hn) t S (some ⟨g, 0, none⟩) c css)) {k m : Nat} (hm : m = n) (hk : css[k]? = some es) : ∀ w, Held M w0 rs w → ∀ j v, es[j]? = some v → w.cell? ⟨g, 0 + k * m + j, none⟩ = some v := fun w h j v hv => by
  subst hm
  have hk' := (List.getElem?_eq_some_iff.1 hk).1
  obtain ⟨g', cur, hA, _, hB, _, _, _, ht, hall⟩ := raw_vec (h.get hi : Vec (eRaw m hn) t w S (.slice (some ⟨g, 0, none⟩) css.length c) css) (fun e => by rw [e] at hk'; exact absurd hk' (Nat.not_lt_zero _))
  simp only [Option.some.injEq, Addr.mk.injEq, and_true] at hA
  obtain rfl := hA
  have hes := (hall es (List.mem_of_getElem? hk)).1
  have hj : j < m := by have := (List.getElem?_eq_some_iff.1 hv).1; omega
  have h1 := flatten_at m css (fun x hx => (hall x hx).1) k es hk j hj
  have h2 : k * m + j < css.length * m := by
    have : (k + 1) * m ≤ css.length * m := Nat.mul_le_mul_right _ hk'
    rw [Nat.succ_mul] at this; omega
  rw [hB.cell, ← hv, ← h1, ← ht, List.getElem?_take_of_lt h2, Nat.zero_add]
  simp

def minN (m k : Nat) : Nat := if k < m then k else m

theorem minN_le1 (m k : Nat) : minN m k ≤ m := by unfold minN; split <;> omega

theorem minN_le2 (m k : Nat) : minN m k ≤ k := by unfold minN; split <;> omega

theorem x_minN {P : Program} {S : World → Prop} {L : List (Nat × Value)} {d : Option Tmp} {x y : Operand} {t t' : TypeId} {m k : Nat} {ty : TypeId} {pos : String} {af : Array Edge} {g : Option (Nat × Bool)} (hx : ev L x = some (.int .i64 m)) (hy : ev L y = some (.int .i64 k)) : XS P S L ⟨d, .call { callee := .builtin .min, args := #[x, y], argTypes := #[t, t'] }, ty, pos, af, g⟩ (.int .i64 (minN m k : Nat)) := fun _ _ _ hE _ => by
  have e : (if (k : Int) < (m : Int) then (k : Int) else (m : Int)) = (minN m k : Nat) := by
    unfold minN
    by_cases h : k < m
    · rw [if_pos (by omega), if_pos h]
    · rw [if_neg (by omega), if_neg h]
  simp only [execOp, resolve, invoke, builtin, Sem.run_bind, Sem.run_pure, Result.andThen_ok, List.map_toArray, List.map_cons, List.map_nil, hE.ev hx, hE.ev hy, run_min_int2, e]

theorem Held.elsTo {M : Nat → Prop} {w0 : World} {rs : List Res} {w : World} {α : Type} {E : Enc α} {S : Nat → Prop} {ps qs : List (List Value × α)} (h : Held M w0 (rEls E S ps :: rs) w) (hp : ps = qs) : Held M w0 (rEls E S qs :: rs) w := hp ▸ h

theorem zip_drop_at {α : Type} {css : List (List Value)} {xs : List α} {k : Nat} {es : List Value} {x : α} {hk : k < xs.length} (h1 : css[k]? = some es) (h2 : x = xs[k]) : (css.zip xs).drop k = (es, x) :: (css.zip xs).drop (k + 1) := by
  have h3 := List.getElem?_eq_some_iff.1 h1
  have hz : k < (css.zip xs).length := by rw [List.length_zip]; have := h3.1; omega
  rw [List.drop_eq_getElem_cons hz, List.getElem_zip, h3.2, h2]

theorem Held.oSlice {M : Nat → Prop} {w0 : World} {rs : List Res} {w : World} {α : Type} {E : Enc α} {S : Nat → Prop} {es : List Value} {x : List α} (h : Held M w0 rs w) {i : Nat} (hi : rs[i]? = some (rO (eSl E) S es x)) : ∃ A c, es = [.slice A x.length c] := by
  obtain ⟨A, c, he, _⟩ := (h.get hi : (eSl E).O w S es x)
  exact ⟨A, c, he⟩

theorem one_LL (w : World) (S : Nat → Prop) (es : List Value) (x : List (List Int)) (h : (eSl (eSl eInt)).R w S es x) : ∀ v ∈ es, v.oneCell' = true := by
  obtain ⟨A, c, rfl, _⟩ := h
  intro v hv
  simp at hv
  subst hv; rfl

/-- A builder in block b, its own blocks in S, holding the bytes l. -/
def BldIn (T e : TypeId) (B b : Nat) (S : Nat → Prop) (l : List UInt8) (w : World) : Prop :=
  Lib.IsBuilderF T e B b (Lib.byteCells l) w ∧ S b ∧ ∀ p v g, w.heap[b]? = some (.cells #[p, v] T (0, 0)) → v.ownBlock = some g → S g

theorem BldIn.loc {T e : TypeId} {B b : Nat} {S : Nat → Prop} {l : List UInt8} {w w' : World} (hs : ∀ k, S k → w'.heap[k]? = w.heap[k]?) (h : BldIn T e B b S l w) : BldIn T e B b S l w' := by
  obtain ⟨h1, h2, h3⟩ := h
  have key : ∀ p, Lib.BuilderAtF T e B b p (Lib.byteCells l) w → Lib.BuilderAtF T e B b p (Lib.byteCells l) w' := by
    rintro p ⟨hB, v, hb, hown, hne⟩
    refine ⟨hB, v, (hs b h2).trans hb, ⟨hown.1, ?_⟩, hne⟩
    rcases hown.2 with hn | ⟨g, cap, cur, fz, rfl, hbg, hg, rest⟩
    · exact .inl hn
    · exact .inr ⟨g, cap, cur, fz, rfl, hbg, (hs g (h3 _ _ g hb (by simp [Value.ownBlock]))).trans hg, rest⟩
  refine ⟨?_, h2, fun p v g hb hv => h3 p v g ((hs b h2).symm.trans hb) hv⟩
  rcases h1 with h | h
  · exact .inl (key _ h)
  · exact .inr (key _ h)

def rBldT (T e : TypeId) (B b : Nat) (S : Nat → Prop) (l : List UInt8) : Res := ⟨S, BldIn T e B b S l, fun _ _ hs h => BldIn.loc hs h⟩

theorem BldIn.mk {T e : TypeId} {B b : Nat} {l : List UInt8} {w : World} (h : Lib.IsBuilderF T e B b (Lib.byteCells l) w) : BldIn T e B b (Iv B w.heap.size) l w := by
  have hb : B ≤ b ∧ b < w.heap.size := by
    rcases h with h | h
    · exact ⟨h.1, h.lt⟩
    · exact ⟨h.1, h.lt⟩
  refine ⟨h, hb, fun p v g hh hv => ?_⟩
  have key : ∀ q, Lib.BuilderAtF T e B b q (Lib.byteCells l) w → Iv B w.heap.size g := by
    rintro q ⟨_, v', hb', hown, _⟩
    rw [hh] at hb'
    simp only [Option.some.injEq, Obj.cells.injEq, and_true] at hb'
    have e2 : v = v' := by
      have := congrArg (fun a : Array Value => a[1]?) hb'
      simpa using this
    subst e2
    exact hown.lt g hv
  rcases h with h | h
  · exact key _ h
  · exact key _ h

theorem Held.bldCall {T e : TypeId} {w0 w w' : World} {b : Nat} {S : Nat → Prop} {l l' : List UInt8} (h : Held Nob w0 [rBldT T e w0.heap.size b S l] w) (hb : Below w0.heap.size w w') (hi : Lib.IsBuilderF T e w0.heap.size b (Lib.byteCells l') w') : ∃ S', Held Nob w0 [rBldT T e w0.heap.size b S' l'] w' := by
  refine ⟨Iv w0.heap.size w'.heap.size, ?_⟩
  have hb2 : Below w0.heap.size w0 w' := h.below.trans hb
  exact ⟨.of_below hb2, by intro r hr; obtain rfl := List.mem_singleton.1 hr; exact BldIn.mk hi, by intro r hr; obtain rfl := List.mem_singleton.1 hr; exact fun k hk => ⟨.inr hk.1, hk.2⟩, List.pairwise_singleton _ _⟩

theorem Held.toBld {T e : TypeId} {w0 w : World} {b : Nat} {rs : List Res} (h : Held Nob w0 (rBlk b T [.pointer none, .slice none 0 0] :: rs) w) : ∃ S, Held Nob w0 [rBldT T e w0.heap.size b S []] w := by
  have hB : Blk w b T #[.pointer none, .slice none 0 0] := h.ok _ List.mem_cons_self
  have hr := h.rng _ (List.mem_cons_self) b rfl
  have hle : w0.heap.size ≤ b := hr.1.resolve_left fun x => x.elim
  have hi : Lib.IsBuilderF T e w0.heap.size b (Lib.byteCells []) w := .inl ⟨hle, _, hB, by simpa [Lib.byteCells] using World.ownsRowF_nil w w0.heap.size e 1, by simp [Value.ownBlock]⟩
  refine ⟨Iv w0.heap.size w.heap.size, ⟨h.chg, ?_, ?_, List.pairwise_singleton _ _⟩⟩
  · intro r hr; obtain rfl := List.mem_singleton.1 hr; exact BldIn.mk hi
  · intro r hr; obtain rfl := List.mem_singleton.1 hr; exact fun k hk => ⟨.inr hk.1, hk.2⟩

theorem Held.isBld {T e : TypeId} {M : Nat → Prop} {w0 w : World} {B b : Nat} {S : Nat → Prop} {l : List UInt8} {rs : List Res} (h : Held M w0 (rBldT T e B b S l :: rs) w) : Lib.IsBuilderF T e B b (Lib.byteCells l) w := (h.ok _ List.mem_cons_self : BldIn T e B b S l w).1

theorem tv_2 : TV Try.prog 2 false [.int .i64 0] := by
  obtain ⟨i, h1, h2, h3⟩ := tv_parts (show (Try.prog.info? 2).map (fun i => (i.zero, i.size)) = some (some (.int .i64 0), 1) from by kernel_rfl)
  exact ⟨⟨_, Try.underlying2, rfl⟩, i, _, h1, h2, h3, rfl⟩

theorem tv_37 : TV Try.prog 37 false [.slice none 0 0] := by
  obtain ⟨i, h1, h2, h3⟩ := tv_parts (show (Try.prog.info? 37).map (fun i => (i.zero, i.size)) = some (some (.slice none 0 0), 1) from by kernel_rfl)
  exact ⟨⟨_, Try.underlying37, rfl⟩, i, _, h1, h2, h3, rfl⟩

theorem tv_50 : TV Try.prog 50 false [.slice none 0 0] := by
  obtain ⟨i, h1, h2, h3⟩ := tv_parts (show (Try.prog.info? 50).map (fun i => (i.zero, i.size)) = some (some (.slice none 0 0), 1) from by kernel_rfl)
  exact ⟨⟨_, Try.underlying50, rfl⟩, i, _, h1, h2, h3, rfl⟩

theorem tv_70 : TV Try.prog 70 true [.slice none 0 0, .slice none 0 0] := by
  obtain ⟨i, h1, h2, h3⟩ := tv_parts (show (Try.prog.info? 70).map (fun i => (i.zero, i.size)) = some (some (.agg #[.slice none 0 0, .slice none 0 0]), 2) from by kernel_rfl)
  exact ⟨⟨_, Try.underlying70, rfl⟩, i, _, h1, h2, h3, rfl⟩

theorem ts_24 : TSl Try.prog 24 50 1 24 := by
  obtain ⟨i, h1, h2, h3, h4⟩ := ts_parts (show (Try.prog.info? 50).map (fun i => (i.zero, i.size, i.bytes)) = some (some (.slice none 0 0), 1, 24) from by kernel_rfl)
  exact ⟨Try.underlying24, i, _, h1, h2, h3, h4, rfl⟩

theorem ts_27 : TSl Try.prog 27 70 2 48 := by
  obtain ⟨i, h1, h2, h3, h4⟩ := ts_parts (show (Try.prog.info? 70).map (fun i => (i.zero, i.size, i.bytes)) = some (some (.agg #[.slice none 0 0, .slice none 0 0]), 2, 48) from by kernel_rfl)
  exact ⟨Try.underlying27, i, _, h1, h2, h3, h4, rfl⟩

theorem ts_37 : TSl Try.prog 37 2 1 8 := by
  obtain ⟨i, h1, h2, h3, h4⟩ := ts_parts (show (Try.prog.info? 2).map (fun i => (i.zero, i.size, i.bytes)) = some (some (.int .i64 0), 1, 8) from by kernel_rfl)
  exact ⟨Try.underlying37, i, _, h1, h2, h3, h4, rfl⟩

theorem ts_50 : TSl Try.prog 50 37 1 24 := by
  obtain ⟨i, h1, h2, h3, h4⟩ := ts_parts (show (Try.prog.info? 37).map (fun i => (i.zero, i.size, i.bytes)) = some (some (.slice none 0 0), 1, 24) from by kernel_rfl)
  exact ⟨Try.underlying50, i, _, h1, h2, h3, h4, rfl⟩

theorem fa_70_0 : ∀ b o w, (Instr.fieldAt 70 (.pointer (some ⟨b, o, none⟩)) 0).run Try.prog w = .ok (.pointer (some ⟨b, o + 0, none⟩)) w := by
  obtain ⟨i, z, h1, _, h3, _⟩ := tv_37.info
  exact fun b o w => fieldAt_of (f := 0) Try.underlying70 rfl h1 (by rw [h3]; decide) b o w

theorem fa_70_1 : ∀ b o w, (Instr.fieldAt 70 (.pointer (some ⟨b, o, none⟩)) 1).run Try.prog w = .ok (.pointer (some ⟨b, o + 1, none⟩)) w := by
  obtain ⟨i, z, h1, _, h3, _⟩ := tv_37.info
  exact fun b o w => fieldAt_of (f := 1) Try.underlying70 rfl h1 (by rw [h3]; decide) b o w

theorem en_7 : ∀ args w, (callFunc 7 args).run Try.prog w = .ok (.enter 7 args) w := enters_of Try.func7 (by kernel_rfl) rfl

theorem en_8 : ∀ args w, (callFunc 8 args).run Try.prog w = .ok (.enter 8 args) w := enters_of Try.func8 (by kernel_rfl) rfl

theorem en_9 : ∀ args w, (callFunc 9 args).run Try.prog w = .ok (.enter 9 args) w := enters_of Try.func9 (by kernel_rfl) rfl

theorem en_10 : ∀ args w, (callFunc 10 args).run Try.prog w = .ok (.enter 10 args) w := enters_of Try.func10 (by kernel_rfl) rfl

theorem en_11 : ∀ args w, (callFunc 11 args).run Try.prog w = .ok (.enter 11 args) w := enters_of Try.func11 (by kernel_rfl) rfl

theorem en_12 : ∀ args w, (callFunc 12 args).run Try.prog w = .ok (.enter 12 args) w := enters_of Try.func12 (by kernel_rfl) rfl

theorem en_13 : ∀ args w, (callFunc 13 args).run Try.prog w = .ok (.enter 13 args) w := enters_of Try.func13 (by kernel_rfl) rfl

theorem en_14 : ∀ args w, (callFunc 14 args).run Try.prog w = .ok (.enter 14 args) w := enters_of Try.func14 (by kernel_rfl) rfl

theorem en_15 : ∀ args w, (callFunc 15 args).run Try.prog w = .ok (.enter 15 args) w := enters_of Try.func15 (by kernel_rfl) rfl

theorem en_23 : ∀ args w, (callFunc 23 args).run Try.prog w = .ok (.enter 23 args) w := enters_of Try.func23 (by kernel_rfl) rfl

theorem en_39 : ∀ args w, (callFunc 39 args).run Try.prog w = .ok (.enter 39 args) w := enters_of Try.func39 (by kernel_rfl) rfl

theorem en_40 : ∀ args w, (callFunc 40 args).run Try.prog w = .ok (.enter 40 args) w := enters_of Try.func40 (by kernel_rfl) rfl

theorem en_41 : ∀ args w, (callFunc 41 args).run Try.prog w = .ok (.enter 41 args) w := enters_of Try.func41 (by kernel_rfl) rfl

theorem en_42 : ∀ args w, (callFunc 42 args).run Try.prog w = .ok (.enter 42 args) w := enters_of Try.func42 (by kernel_rfl) rfl

theorem en_44 : ∀ args w, (callFunc 44 args).run Try.prog w = .ok (.enter 44 args) w := enters_of Try.func44 (by kernel_rfl) rfl

theorem en_45 : ∀ args w, (callFunc 45 args).run Try.prog w = .ok (.enter 45 args) w := enters_of Try.func45 (by kernel_rfl) rfl

theorem en_46 : ∀ args w, (callFunc 46 args).run Try.prog w = .ok (.enter 46 args) w := enters_of Try.func46 (by kernel_rfl) rfl

theorem en_81 : ∀ args w, (callFunc 81 args).run Try.prog w = .ok (.enter 81 args) w := enters_of Try.func81 (by kernel_rfl) rfl

theorem en_82 : ∀ args w, (callFunc 82 args).run Try.prog w = .ok (.enter 82 args) w := enters_of Try.func82 (by kernel_rfl) rfl

theorem hmix : Try.prog.follows .mixedOrders = true := by kernel_rfl

theorem cntL_cost {α : Type} {c f : α → Nat} (h : ∀ x, c x ≤ 4 * f x + 4) (xs : List α) : cntL c xs ≤ 4 * costL f xs := by
  unfold cntL costL
  induction xs with
  | nil => simp
  | cons x xs ih =>
    rw [List.map_cons, List.sum_cons, List.map_cons, List.sum_cons, List.length_cons]
    have := h x
    omega

theorem cntL_bound {α : Type} {c : α → Nat} {n : Nat} : ∀ {xs : List α}, (∀ x ∈ xs, c x ≤ n) → cntL c xs ≤ n * xs.length
  | [], _ => by simp [cntL]
  | x :: xs, h => by
    have h1 := cntL_bound (c := c) (n := n) (xs := xs) fun y hy => h y (by simp [hy])
    have h2 := h x (by simp)
    unfold cntL at h1 ⊢
    rw [List.map_cons, List.sum_cons, List.length_cons, Nat.mul_succ]
    omega

theorem ct_L_len (xs : List Int) : ct_L xs = xs.length := by
  have := cntL_const ct_i 1 xs fun _ => rfl
  unfold ct_L; omega

theorem ct_cost_SRewrite (xs : List tRewrite) : ct_SRewrite xs ≤ 4 * cost_SRewrite xs := cntL_cost (fun x => by
  have h1 := ct_L_len x.1
  have h2 := ct_L_len x.2
  unfold ct_Rewrite cost_Rewrite cost_L; omega) xs

def mkR_SRewrite (xs : List tRewrite) (k : Int) : Int × List tRewrite := (k + (ct_SRewrite xs : Int), mk_SRewrite xs k)

set_option maxRecDepth 100000 in
set_option maxHeartbeats 4000000 in
theorem mark_SRewrite_h (M : Nat → Prop) (A0 : Option Addr) (c0 : Nat) (a0 : (List tRewrite)) (S0 : Nat → Prop) (a1 : Int) (w : World) (HM : Held M w [rSo eRewrite S0 A0 c0 a0] w) (s0 : 0 ≤ a1) (s1 : a1 + (ct_SRewrite a0 : Int) ≤ 1000000000000) :
    Calls Try.prog 13 #[.slice A0 a0.length c0, .int .i64 a1] w fun e w' => ∃ (S0' : Nat → Prop), e = .returned (.int .i64 ((mkR_SRewrite a0 a1).1)) ∧ Held M w [rSo eRewrite S0' A0 c0 (mkR_SRewrite a0 a1).2] w' := by
  have HH1 := HM
  have l0 := (HH1.sl (i := 0) rfl).len
  refine enter (n := 27) Try.func13 rfl rfl rfl fun a_2 HE3 => ?_
  refine wp_seq ?_
  refine rg ?_
  refine pl_x HE3 HH1 (wt0 rfl) (x_assign rfl) rfl rfl fun a_4 HE5 => ?_
  refine wpList_nil ?_
  clear a_2 HE3
  refine nrm ?_
  refine wp_seq ?_
  refine wp_seq ?_
  refine rg ?_
  refine pl_x HE5 HH1 (wt0 rfl) (x_assign rfl) rfl rfl fun a_6 HE7 => ?_
  refine wpList_nil ?_
  clear a_4 HE5
  refine nrm ?_
  refine wp_block ?_
  refine lp (fun m a w' => ∃ (i : Nat) (S_0 : Nat → Prop), m = a0.length - i ∧ Env 27 [(1, .int .i64 (a1 + (cntL ct_Rewrite (a0.take i) : Int))), (5, .int .i64 (i : Int)), (0, .slice A0 (a0.length) c0)] a ∧ Held M w [rSo eRewrite S_0 A0 c0 (mkTo mk_Rewrite ct_Rewrite a0 a1 i)] w' ∧ (i ≤ a0.length)) (a0.length - (0)) ?_ ?_
  · have E21 : mkTo mk_Rewrite ct_Rewrite a0 a1 0 = a0 := by
      exact mkTo_zero _ _ _ _
    exact ⟨0, S0, rfl, HE7.sub ⟨(lkI rfl (by simp [cntL])), (lkI rfl (by first | rfl | omega | (simp []; done))), rfl, trivial⟩, ((HH1.sel [0] (by decide) rfl).to (by first | rfl | (rw [E21]; done) | (rw [E21]; rfl) | (simp only [E21]; done) | (simp only [E21]; rfl) | (rw [E21]; simp only [List.length_set]; done))), (by first | omega | assumption | (simp; done) | simp_all)⟩
  · rintro m a_8 w' ⟨i, S_0, rfl, HE9, HH10, p22_0⟩
    have hl0 : (mkTo mk_Rewrite ct_Rewrite a0 a1 i).length = a0.length := mkTo_len _ _ _ _ _
    refine wp_seq ?_
    refine wp_seq ?_
    refine rg ?_
    refine pl_x HE9 HH10 (wt0 rfl) (x_move rfl) rfl rfl fun a_11 HE12 => ?_
    refine pl_x HE12 HH10 (wt0 rfl) (x_move rfl) rfl rfl fun a_13 HE14 => ?_
    refine pl_x HE14 HH10 (wt0 rfl) (x_len Try.underlying27 rfl) rfl rfl fun a_15 HE16 => ?_
    refine pl_x HE16 HH10 (wt0 rfl) (x_lss rfl rfl) rfl rfl fun a_17 HE18 => ?_
    refine wpList_nil ?_
    clear a_6 HE7 HH1 a_8 HE9 a_11 HE12 a_13 HE14 a_15 HE16
    refine nrm ?_
    refine cnd_d HE18 rfl (fun hc23 => ?_) (fun hc23 => ?_)
    · refine wp_skip ?_
      refine nrm ?_
      refine wp_seq ?_
      refine wp_block ?_
      refine wp_seq ?_
      refine rg ?_
      refine pl_x HE18 HH10 (wt0 rfl) (x_move rfl) rfl rfl fun a_19 HE20 => ?_
      refine pl_x HE20 HH10 (wt0 rfl) (x_move rfl) rfl rfl fun a_21 HE22 => ?_
      have ke24 : i < List.length (mkTo mk_Rewrite ct_Rewrite a0 a1 i) := by first | omega | (rw [mkTo_len]; omega)
      have ne24 : i < a0.length := by omega
      obtain ⟨be24, fe24, ese24, Te24, rfl, Re24, Ze24, HH23⟩ := HH10.open ke24
      obtain ⟨e24, xe24⟩ : ∃ x_, x_ = (mkTo mk_Rewrite ct_Rewrite a0 a1 i)[i] := ⟨_, rfl⟩
      rw [← xe24] at Re24
      rw [← xe24] at HH23
      obtain ⟨Ae24_0, ce24_0, Ae24_1, ce24_1, rfl, ge24_0, ge24_1⟩ := shape_Rewrite Re24
      clear Re24
      have hxe24 : e24 = a0[i] := by have hq := mkTo_get mk_Rewrite ct_Rewrite a0 a1 i (by omega); rw [List.getElem?_eq_getElem (by rw [mkTo_len]; omega)] at hq; rw [xe24]; exact Option.some.inj hq
      have hc1 := cntL_take ct_Rewrite a0 i (by omega)
      have hc2 : cntL ct_Rewrite (a0.take (i + 1)) ≤ ct_SRewrite a0 := cntL_le ct_Rewrite a0 (i + 1)
      rw [← hxe24] at hc1
      have hc3 : ct_Rewrite e24 = ct_L e24.1 + ct_L e24.2 := rfl
      have HH24 := HH23.sel [1, 0] (by decide) rfl
      obtain ⟨S25, S26, HH25⟩ := HH24.unP rfl
      have HH26 := HH25.sel [1, 0, 2] (by decide) rfl
      refine pl_x HE22 HH26 (wt0 rfl) (x_indexAddr ts_27 rfl rfl rfl rfl ne24) rfl rfl fun a_27 HE28 => ?_
      refine pl_x HE28 HH26 (wt0 rfl) (x_fieldAddr fa_70_0 rfl) rfl rfl fun a_29 HE30 => ?_
      refine pl_x HE30 HH26 (wt0 rfl) (x_load1 tv_37 rfl (c_foc (E := eRewrite) (off := fe24) (k := i) (j := 0) 2 rfl rfl)) rfl rfl fun a_31 HE32 => ?_
      refine pl_x HE32 HH26 (wt0 rfl) (x_move rfl) rfl rfl fun a_33 HE34 => ?_
      refine pl fun K_35 hK36 => ?_
      refine st_call HE34 (wt0 rfl) rfl rfl rfl en_23 rfl rfl (mark_L_c _ _ e24.1 (a1 + (cntL ct_Rewrite (a0.take i) : Int)) _ _ (so_of_o (HH26.get (i := 1) rfl)) (HH26.lt (i := 1) rfl) (by omega) (by omega)) fun e w' hr => ?_
      obtain ⟨rfl, hsr27, hcr27⟩ := hr
      have HH37 := HH26.mut (i := 1) rfl hcr27 (rSo eInt S25 Ae24_0 ce24_0 (mk_L e24.1 (a1 + (cntL ct_Rewrite (a0.take i) : Int)))) (oSl hsr27) (fun b hb => .inl hb)
      clear hsr27 hcr27
      refine ⟨_, rfl, fun a_38 HE39 => hK36 _ _ ?_⟩
      refine pl_x HE39 HH37 (wt0 rfl) (x_assign rfl) rfl rfl fun a_40 HE41 => ?_
      refine wpList_nil ?_
      clear a_17 HE18 a_19 HE20 HH10 HH23 HH24 HH25 a_21 HE22 a_27 HE28 a_29 HE30 a_31 HE32 HH26 a_33 HE34 a_38 HE39 hK36 K_35
      refine nrm ?_
      refine rg ?_
      refine pl_x HE41 HH37 (wt0 rfl) (x_move rfl) rfl rfl fun a_42 HE43 => ?_
      refine pl_x HE43 HH37 (wt0 rfl) (x_move rfl) rfl rfl fun a_44 HE45 => ?_
      refine pl_x HE45 HH37 (wt0 rfl) (x_indexAddr ts_27 rfl rfl rfl rfl ne24) rfl rfl fun a_46 HE47 => ?_
      refine pl_x HE47 HH37 (wt0 rfl) (x_fieldAddr fa_70_1 rfl) rfl rfl fun a_48 HE49 => ?_
      refine pl_x HE49 HH37 (wt0 rfl) (x_load1 tv_37 rfl (c_foc (E := eRewrite) (off := fe24) (k := i) (j := 1) 2 rfl rfl)) rfl rfl fun a_50 HE51 => ?_
      refine pl_x HE51 HH37 (wt0 rfl) (x_move rfl) rfl rfl fun a_52 HE53 => ?_
      refine pl fun K_54 hK55 => ?_
      refine st_call HE53 (wt0 rfl) rfl rfl rfl en_23 rfl rfl (mark_L_c _ _ e24.2 ((a1 + (cntL ct_Rewrite (a0.take i) : Int)) + (ct_L e24.1 : Int)) _ _ (so_of_o (HH37.get (i := 0) rfl)) (HH37.lt (i := 0) rfl) (by omega) (by omega)) fun e w' hr => ?_
      obtain ⟨rfl, hsr28, hcr28⟩ := hr
      have HH56 := HH37.mut (i := 0) rfl hcr28 (rSo eInt S26 Ae24_1 ce24_1 (mk_L e24.2 ((a1 + (cntL ct_Rewrite (a0.take i) : Int)) + (ct_L e24.1 : Int)))) (oSl hsr28) (fun b hb => .inl hb)
      clear hsr28 hcr28
      refine ⟨_, rfl, fun a_57 HE58 => hK55 _ _ ?_⟩
      refine pl_x HE58 HH56 (wt0 rfl) (x_assign rfl) rfl rfl fun a_59 HE60 => ?_
      refine wpList_nil ?_
      clear a_40 HE41 a_42 HE43 a_44 HE45 a_46 HE47 a_48 HE49 a_50 HE51 HH37 a_52 HE53 a_57 HE58 hK55 K_54
      refine blk_n ?_
      refine nrm ?_
      refine rg ?_
      refine pl_x HE60 HH56 (wt0 rfl) (x_move rfl) rfl rfl fun a_61 HE62 => ?_
      refine pl_x HE62 HH56 (wt0 rfl) (x_add rfl rfl (by exact ⟨by omega, by omega⟩)) rfl rfl fun a_63 HE64 => ?_
      refine pl_x HE64 HH56 (wt0 rfl) (x_assign rfl) rfl rfl fun a_65 HE66 => ?_
      refine wpList_nil ?_
      clear a_59 HE60 a_61 HE62 a_63 HE64
      have HH67 := HH56.sel [1, 0, 2] (by decide) rfl
      have HH68 := HH67.relen (n := e24.1.length) (by first | exact mkL_len _ _ _ _ | (simp; done) | (simp; omega))
      have HH69 := HH68.sel [1, 0, 2] (by decide) rfl
      have HH70 := HH69.relen (n := e24.2.length) (by first | exact mkL_len _ _ _ _ | (simp; done) | (simp; omega))
      have HH71 := HH70.sel [1, 0, 2] (by decide) rfl
      have HH72 := HH71.sel [1, 0, 2] (by decide) rfl
      have HH73 := HH72.sel [1, 0, 2] (by decide) rfl
      have HH74 := HH73.pair
      obtain ⟨S29, HH75⟩ : ∃ S, Held M w (rO eRewrite S [.slice Ae24_0 (e24.1.length) ce24_0, .slice Ae24_1 (e24.2.length) ce24_1] ((mk_L e24.1 (a1 + (cntL ct_Rewrite (a0.take i) : Int))), (mk_L e24.2 ((a1 + (cntL ct_Rewrite (a0.take i) : Int)) + (ct_L e24.1 : Int)))) :: _) _ := ⟨_, HH74⟩
      have HH76 := HH75.sel [1, 0] (by decide) rfl
      have HH77 := HH76.shut
      obtain ⟨S30, HH78⟩ : ∃ S, Held M w (rSo eRewrite S (some ⟨be24, fe24, none⟩) c0 ((mkTo mk_Rewrite ct_Rewrite a0 a1 i).set i ((mk_L e24.1 (a1 + (cntL ct_Rewrite (a0.take i) : Int))), (mk_L e24.2 ((a1 + (cntL ct_Rewrite (a0.take i) : Int)) + (ct_L e24.1 : Int))))) :: _) _ := ⟨_, HH77⟩
      have E31 : mkTo mk_Rewrite ct_Rewrite a0 a1 (i + 1) = ((mkTo mk_Rewrite ct_Rewrite a0 a1 i).set i ((mk_L e24.1 (a1 + (cntL ct_Rewrite (a0.take i) : Int))), (mk_L e24.2 ((a1 + (cntL ct_Rewrite (a0.take i) : Int)) + (ct_L e24.1 : Int))))) := by
        rw [← mkTo_step mk_Rewrite ct_Rewrite a0 a1 i (by omega), ← hxe24]; rfl
      exact nrm ⟨a0.length - (i + 1), (by omega), i + 1, S30, rfl, HE66.sub ⟨(lkI rfl (by omega)), (lkI rfl (by first | rfl | omega | (simp [p22_0, hc23, xe24]; done))), rfl, trivial⟩, ((HH78.sel [0] (by decide) rfl).to (by first | rfl | (rw [E31]; done) | (rw [E31]; rfl) | (simp only [E31]; done) | (simp only [E31]; rfl) | (rw [E31]; simp only [List.length_set]; done))), (by first | omega | assumption | (simp; done) | simp_all)⟩
    · refine wp_exit ?_
      refine (thn_exit (thn_exit (blk_hit ?_)))
      refine nrm ?_
      refine wp_seq ?_
      refine rg ?_
      refine pl_x HE18 HH10 (wt0 rfl) (x_move rfl) rfl rfl fun a_79 HE80 => ?_
      refine pl_x HE80 HH10 (wt0 rfl) (x_assign rfl) rfl rfl fun a_81 HE82 => ?_
      refine wpList_nil ?_
      clear a_17 HE18 a_79 HE80
      refine nrm ?_
      refine wp_ret ?_
      refine ret1 HE82 rfl (rv_tmp rfl) ?_
      have hF : (mkR_SRewrite a0 a1) = ((a1 + (cntL ct_Rewrite (a0.take i) : Int)), mkTo mk_Rewrite ct_Rewrite a0 a1 i) := by
        unfold mkR_SRewrite ct_SRewrite mk_SRewrite; rw [show i = a0.length from by omega, mkTo_end, List.take_length]
      exact ⟨_, by first | (rw [hF] <;> rfl) | rfl | (rw [hF]; simp only [Ending.returned.injEq, Value.slice.injEq, true_and, and_true]; first | omega | (simp; done)) | (rw [hF]; simp; omega), by rw [hF]; exact HH10.sel [0] (by decide) rfl⟩

theorem elem_Int64 : Elem Try.prog eInt 37 2 8 := by
  obtain ⟨i0, hi0, hz0, hz1, hz2⟩ := info_parts info_impl_Int64
  exact ⟨Try.underlying37, i0, _, hi0, hz0, hz1, hz2, rfl⟩

set_option maxRecDepth 100000 in
set_option maxHeartbeats 1000000 in
theorem slices_Grow_nil (n : Nat) (w : World) (hn : n ≤ 1000000000000) :
    Calls Try.prog 121 #[.slice none 0 0, .int .i64 n] w fun e w' => ∃ v, e = .returned v ∧ Row eInt encInt 2 w' w.heap.size v [] ∧ Below w.heap.size w w' := by
  obtain ⟨i0, hi0, hz0, hz1, hz2⟩ := info_parts info_impl_Int64
  by_cases h0 : n = 0
  · subst h0
    go_enter Try.func121, Try.ntmps121
    go_wp2
    go_ret
    exact ⟨_, rfl, Row.nil, Below.refl _ _⟩
  · have hpos : (0 : Int) < (n : Int) := by omega
    have hrun := Lib.run_append_nil_zeros (P := Try.prog) w 37 3 37 2 i0 _ .i64 .i64 Try.underlying37 Try.underlying3 hi0 hz0 n (by omega) (by omega) (by omega) (by rw [hz2]; omega)
    have hge := grownCap_ge w n 0 2
    have hle := grownCap_le_maxLen w n 0 2 (by unfold maxLen; omega)
    have hB := Blk.new w.drew 2 (Builtin.zeroCells (Value.int .i64 0).cells n ++ Builtin.zeroCells (Value.int .i64 0).cells (grownCap w n 0 2 - n))
    have hsz : (Builtin.zeroCells (Value.int .i64 0).cells n ++ Builtin.zeroCells (Value.int .i64 0).cells (grownCap w n 0 2 - n)).size = grownCap w n 0 2 := by
      have : (Value.int IntKind.i64 0).cells.size = 1 := rfl
      simp only [Array.size_append, size_zeroCells, this]; omega
    have HL : Hid (Below w.heap.size w (w.drew.alloc (.cells (Builtin.zeroCells (Value.int .i64 0).cells n ++ Builtin.zeroCells (Value.int .i64 0).cells (grownCap w n 0 2 - n)) 2))) := ((Below.refl _ w).drew).alloc (Nat.le_refl _) _
    generalize hZ : (Builtin.zeroCells (Value.int .i64 0).cells n ++ Builtin.zeroCells (Value.int .i64 0).cells (grownCap w n 0 2 - n)) = Z at *
    generalize hG : grownCap w n 0 2 = cap at *
    clear hZ hG
    have HW := Lib.hid hB; clear hB
    have HSZ := Lib.hid hsz; clear hsz
    have hcap0 : (0 : Int) ≤ (cap : Int) := by omega
    have HR : Hid (Row eInt encInt 2 (w.drew.alloc (.cells Z 2)) w.heap.size (.slice (some ⟨w.heap.size, 0, none⟩) 0 cap) []) := ⟨⟨by simp, .inr ⟨_, cap, Z, rfl, Nat.le_refl _, HW.out, Nat.zero_le _, hle, by rw [HSZ.out]; show cap = cap * 1; omega, by simp⟩⟩, fun _ h => by simp at h⟩
    go_enter Try.func121, Try.ntmps121
    go_wp2_with (at_builtin; refine Lib.wpList_append_run _ rfl _ _ _ _ rfl _ _ rfl rfl _ _ hrun ?_)
    clear hrun
    go_wp2
    go_ret
    exact ⟨_, rfl, HR.out, HL.out⟩

set_option maxRecDepth 100000 in
set_option maxHeartbeats 2000000 in
theorem slices_Concat (A : Option Addr) (c : Nat) (xss : List (List Int)) (w : World) (h : Sl (eSl eInt) w (Old w) A c xss) (hsm : (xss.map List.length).sum ≤ 1000000000000) :
    Calls Try.prog 108 #[.slice A xss.length c] w fun e w' => ∃ A' c', e = .returned (.slice A' xss.flatten.length c') ∧ So eInt w' (Fr w w') A' c' xss.flatten ∧ Below w.heap.size w w' := by
  have hlen := h.len
  have H := Lib.hid h; clear h
  go_enter Try.func108, Try.ntmps108
  go_wp2
  go_loop [3, 5, 11] (fun s3 _ s11 => ∃ k m : Nat, k ≤ xss.length ∧ s11 = .int .i64 k ∧ s3 = .int .i64 m ∧ m ≤ 1000000000000 ∧ Hid (m = ((xss.take k).map List.length).sum)) (fun _ _ s11 => xss.length - (intOf s11).toNat)
  case atStart => exact ⟨0, 0, Nat.zero_le _, rfl, rfl, by omega, rfl⟩
  case round =>
    obtain ⟨k, m, hk, rfl, rfl, hm, HM⟩ := hrel
    by_cases hlt : k < xss.length
    · have hltz : (k : Int) < (xss.length : Int) := by omega
      obtain ⟨b, off, es, rfl, hb, hR, hc⟩ := H.out.at1 rfl hlt
      obtain ⟨A1, c1, rfl, g1⟩ := hR
      have d0 : w.cell? ⟨b, off + k, none⟩ = some (.slice A1 xss[k].length c1) := hc _ rfl
      have h1 := costL_take List.length xss k hlt
      have h2 := cost_le List.length xss (k + 1)
      have HM2 : Hid (m + xss[k].length = ((xss.take (k + 1)).map List.length).sum) := by show _ = _; rw [h1, HM.out]
      have hm2 : m + xss[k].length ≤ 1000000000000 := by rw [HM2.out]; omega
      clear hc g1 h1 h2
      generalize xss[k] = y at d0 HM2 hm2
      have hnn : ¬ ((m : Int) + (y.length : Int) < 0) := by omega
      go_wp2
      go_round
      case rel => exact ⟨k + 1, m + y.length, by omega, by go_num, by go_num, hm2, HM2.out⟩
      case measure => simp [intOf]; omega
    · have hltz : ¬ (k : Int) < (xss.length : Int) := by omega
      obtain rfl : k = xss.length := by omega
      clear hltz hlt hk HM
      go_wp2_with (go_at_call 121; refine (slices_Grow_nil m w hm).mono ?_; rintro e w1 ⟨v, rfl, hrow, hb⟩)
      have HR := Lib.hid hrow
      have HL := Lib.hid hb
      clear hrow hb
      go_loopw [6, 8, 27] (fun s6 _ s27 wr => ∃ k : Nat, k ≤ xss.length ∧ s27 = .int .i64 k ∧ Hid (Row eInt encInt 2 wr w.heap.size s6 ((xss.take k).flatten)) ∧ Hid (Below w.heap.size w wr)) (fun _ _ s27 _ => xss.length - (intOf s27).toNat)
      case atStart => exact ⟨0, Nat.zero_le _, rfl, HR, HL⟩
      case round =>
        clear HR HL
        obtain ⟨k, hk, rfl, HR, BW⟩ := hrel
        by_cases hlt : k < xss.length
        · have hltz : (k : Int) < (xss.length : Int) := by omega
          obtain ⟨b, off, es, rfl, hb, hR, hc⟩ := H.out.at1 rfl hlt
          obtain ⟨A1, c1, rfl, g1⟩ := hR
          have d0 : wr.cell? ⟨b, off + k, none⟩ = some (.slice A1 xss[k].length c1) := (below_olds BW.out _ hb).trans (hc _ rfl)
          have HG := Lib.hid (g1.on BW.out)
          have h1 := costL_take List.length xss k hlt
          have h2 := cost_le List.length xss (k + 1)
          have hl1 : (xss.take k).flatten.length + xss[k].length ≤ 1000000000000 := by rw [List.length_flatten]; omega
          have HF : Hid ((xss.take (k + 1)).flatten = (xss.take k).flatten ++ xss[k]) := by show _ = _; rw [List.take_succ_eq_append_getElem hlt, List.flatten_append]; simp
          clear hc g1 h1 h2
          generalize xss[k] = y at d0 HF HG hl1
          have hbase := BW.out.size
          go_wp2_with (at_builtin; refine wpList_append_row flat_int elem_Int64 rfl _ _ rfl (base := w.heap.size) rfl HR.out rfl HG.out (by unfold maxLen; omega) (by omega) hbase ?_)
          intro v' w2 hrow hgrow hat
          have HR2 : Hid (Row eInt encInt 2 w2 w.heap.size v' ((xss.take (k + 1)).flatten)) := by show Row _ _ _ _ _ _ _; rw [HF.out]; exact hrow
          have HL2 : Hid (Below w.heap.size w w2) := BW.out.grown hgrow hbase (fun b hb => (HR.out.lt b hb).1)
          clear hrow hgrow hat
          go_wp2
          go_roundw
          case rel => exact ⟨k + 1, by omega, by go_num, HR2.out, HL2.out⟩
          case measure => simp [intOf]; omega
        · have hltz : ¬ (k : Int) < (xss.length : Int) := by omega
          obtain rfl : k = xss.length := by omega
          have h3 := HR.out
          rw [List.take_length] at h3
          obtain ⟨A', c', rfl, hso⟩ := h3.so
          have HO := Lib.hid hso; clear hso h3 HR
          go_wp2
          go_ret
          exact ⟨A', c', rfl, HO.out, BW.out⟩

theorem impl_joined (A : Option Addr) (c : Nat) (xss : List (List Int)) (w : World) (h : Sl (eSl eInt) w (Old w) A c xss) (hsm : (xss.map List.length).sum ≤ 1000000000000) :
    Calls Try.prog 82 #[.slice A xss.length c] w fun e w' => ∃ A' c', e = .returned (.slice A' xss.flatten.length c') ∧ So eInt w' (Fr w w') A' c' xss.flatten ∧ Below w.heap.size w w' := by
  have HC := Lib.hid (slices_Concat A c xss w h hsm); clear h
  go_enter Try.func82, Try.ntmps82
  go_wp2_with (go_at_call 108; refine HC.out.mono ?_; rintro e w1 ⟨A', c', rfl, hso, hb⟩)
  go_ret
  exact ⟨A', c', by rw [List.length_flatten]; rfl, hso, hb⟩

def outB (lo hi n : Int) : Bool := !withinB n lo hi

def allW (xs : List Int) (lo hi : Int) : Bool := !xs.any (outB lo hi)

def isWord (xs : List Int) : Bool := decide (xs.length ≤ 400) && allW xs 0 9

theorem impl_allWithin (A : Option Addr) (c : Nat) (xs : List Int) (lo hi : Int) (w : World) (h : Sl eInt w (Old w) A c xs) :
    Calls Try.prog 117 #[.slice A xs.length c, .int .i64 lo, .int .i64 hi] w fun e w' => e = .returned (.bool (allW xs lo hi)) ∧ w = w' := by
  have hlen := h.len
  have H := Lib.hid h; clear h
  unfold allW
  go_enter Try.func117, Try.ntmps117
  go_wp2
  go_loop [8, 11] (fun _ i => ∃ k : Nat, k ≤ xs.length ∧ i = .int .i64 k ∧ Hid ((xs.take k).any (outB lo hi) = false)) (fun _ i => xs.length - (intOf i).toNat)
  case atStart => exact ⟨0, Nat.zero_le _, rfl, rfl⟩
  case round =>
    obtain ⟨k, hk, rfl, HN⟩ := hrel
    by_cases hlt : k < xs.length
    · have hltz : (k : Int) < (xs.length : Int) := by omega
      obtain ⟨b, off, es, rfl, hb, ⟨rfl, _⟩, hc⟩ := H.out.at1 rfl hlt
      have d0 : w.cell? ⟨b, off + k, none⟩ = some (.int .i64 xs[k]) := hc _ rfl
      clear hc
      have HT : Hid (outB lo hi xs[k] = true → xs.any (outB lo hi) = true) := fun e => any_hit hlt e
      have HS : Hid (outB lo hi xs[k] = false → (xs.take (k + 1)).any (outB lo hi) = false) := fun e => any_step hlt HN.out e
      generalize xs[k] = y at d0 HT HS
      cases q1 : withinB y lo hi
      · go_wp2_with (go_at_call 65; refine (impl_within _ _ _ _).mono ?_; rintro e w' ⟨rfl, rfl⟩; rw [q1])
        go_ret
        exact ⟨by rw [HT.out (by unfold outB; rw [q1]; rfl)]; rfl, rfl⟩
      · go_wp2_with (go_at_call 65; refine (impl_within _ _ _ _).mono ?_; rintro e w' ⟨rfl, rfl⟩; rw [q1])
        go_round
        case rel => exact ⟨k + 1, by omega, by go_num, HS.out (by unfold outB; rw [q1]; rfl)⟩
        case measure => simp [intOf]; omega
    · have hltz : ¬ (k : Int) < (xs.length : Int) := by omega
      obtain rfl : k = xs.length := by omega
      go_wp2
      go_ret
      have hn := HN.out
      rw [List.take_length] at hn
      exact ⟨ret_bool (by rw [hn]; rfl), rfl⟩

theorem impl_isLetters (A : Option Addr) (c : Nat) (xs : List Int) (w : World) (h : Sl eInt w (Old w) A c xs) :
    Calls Try.prog 110 #[.slice A xs.length c] w fun e w' => e = .returned (.bool (allW xs 0 9)) ∧ w = w' := by
  have H := Lib.hid h; clear h
  go_enter Try.func110, Try.ntmps110
  go_wp2_with (go_at_call 117; refine (impl_allWithin _ _ _ _ _ _ H.out).mono ?_; rintro e w' ⟨rfl, rfl⟩)
  go_ret
  exact ⟨rfl, rfl⟩

theorem impl_IsWord (A : Option Addr) (c : Nat) (xs : List Int) (w : World) (h : Sl eInt w (Old w) A c xs) :
    Calls Try.prog 85 #[.slice A xs.length c] w fun e w' => e = .returned (.bool (isWord xs)) ∧ w = w' := by
  have H := Lib.hid h; clear h
  by_cases h1 : xs.length ≤ 400
  · have h1' : decide ((xs.length : Int) ≤ 400) = true := by simp; omega
    rw [show isWord xs = allW xs 0 9 from by unfold isWord; simp [h1]]
    go_enter Try.func85, Try.ntmps85
    go_wp2_with (go_at_call 110; refine (impl_isLetters _ _ _ _ H.out).mono ?_; rintro e w' ⟨rfl, rfl⟩)
    go_ret
    exact ⟨rfl, rfl⟩
  · have h1' : decide ((xs.length : Int) ≤ 400) = false := by simp; omega
    rw [show isWord xs = false from by unfold isWord; simp [h1]]
    go_enter Try.func85, Try.ntmps85
    go_wp2_with fail
    go_ret
    exact ⟨rfl, rfl⟩

theorem enters_areWords1 : ∀ args w, (callFunc 84 args).run Try.prog w = .ok (.enter 84 args) w := enters_of Try.func84 (by kernel_rfl) rfl

def notWord (xs : List Int) : Bool := !isWord xs

theorem impl_areWords1 (es : List Value) (xs : List Int) (w : World) (h : (eSl eInt).R w (Old w) es xs) :
    Calls Try.prog 84 #[es[0]!] w fun e w' => e = .returned (.bool (notWord xs)) ∧ Below w.heap.size w w' := by
  obtain ⟨A, c, rfl, h⟩ := h
  have H := Lib.hid h; clear h
  show Calls Try.prog 84 #[.slice A xs.length c] w _
  go_enter Try.func84, Try.ntmps84
  go_wp2_with (go_at_call 85; refine (impl_IsWord _ _ _ _ H.out).mono ?_; rintro e w' ⟨rfl, rfl⟩)
  go_ret
  exact ⟨rfl, Below.refl _ _⟩

theorem impl_areWords (A : Option Addr) (c : Nat) (xs : List (List Int)) (w : World) (h : Sl (eSl eInt) w (Old w) A c xs) :
    Calls Try.prog 46 #[.slice A xs.length c] w fun e w' => e = .returned (.bool (!xs.any notWord)) ∧ Below w.heap.size w w' := by
  have hI := Lib.hid (ContainsFunc_Int64S notWord 84 #[] A c xs w h enters_areWords1 (fun W x es _ hb hR => impl_areWords1 es x W hR)); clear h
  go_enter Try.func46, Try.ntmps46
  go_wp2_with (go_at_call 83; refine hI.out.mono ?_; rintro e w' ⟨rfl, hb⟩)
  go_ret
  exact ⟨rfl, hb⟩

theorem sl_two {α : Type} {E : Enc α} {w : World} {S : Nat → Prop} {g : Nat} {t : TypeId} {A0 A1 : Option Addr} {c0 c1 : Nat} {x0 x1 : List α} (hB : Blk w g t #[.slice A0 x0.length c0, .slice A1 x1.length c1]) (hg : S g) (h0 : Sl E w S A0 c0 x0) (h1 : Sl E w S A1 c1 x1) :
    Sl (eSl E) w S (some ⟨g, 0, none⟩) 2 [x0, x1] :=
  ⟨Nat.le_refl _, by unfold maxLen; omega, fun _ => ⟨g, 0, rfl, hg, fun i x hx => by
    rcases i with _ | _ | i
    · simp at hx; subst hx
      refine ⟨_, ⟨A0, c0, rfl, h0⟩, fun j v hv => ?_⟩
      rcases j with _ | j
      · simp at hv; subst hv; exact hB.cell 0
      · simp at hv
    · simp at hx; subst hx
      refine ⟨_, ⟨A1, c1, rfl, h1⟩, fun j v hv => ?_⟩
      rcases j with _ | j
      · simp at hv; subst hv; exact hB.cell 1
      · simp at hv
    · simp at hx⟩⟩

def rewBad (x : tRewrite) : Bool := !(isWord x.1 && isWord x.2) || decide (x.1.length = 0)

theorem enters_ValidRewrites1 : ∀ args w, (callFunc 80 args).run Try.prog w = .ok (.enter 80 args) w := enters_of Try.func80 (by kernel_rfl) rfl

theorem any_two (a b : List Int) : (!([a, b].any notWord)) = (isWord a && isWord b) := by
  simp [notWord]

set_option maxHeartbeats 400000 in
theorem impl_ValidRewrites1 (es : List Value) (x : tRewrite) (w : World) (h : eRewrite.R w (Old w) es x) :
    Calls Try.prog 80 #[.agg es.toArray] w fun e w' => e = .returned (.bool (rewBad x)) ∧ Below w.heap.size w w' := by
  obtain ⟨A0, c0, A1, c1, rfl, g0, g1⟩ := shape_Rewrite h
  clear h
  have hlen := g0.len
  have hB1 : Below w.heap.size w ((w.alloc (.cells #[.slice A0 x.1.length c0, .slice A1 x.2.length c1] 70)).alloc (.cells #[.slice A0 x.1.length c0, .slice A1 x.2.length c1] 37)) := by go_grown
  have HW := Lib.hid (impl_areWords _ 2 [x.1, x.2] _ (sl_two (Blk.new1 w (.cells #[.slice A0 x.1.length c0, .slice A1 x.2.length c1] 70) 37 #[.slice A0 x.1.length c0, .slice A1 x.2.length c1]) (by show _ < _; simp) (g0.on hB1) (g1.on hB1)))
  have HB1 := Lib.hid hB1; clear hB1 g0 g1
  cases hq : isWord x.1 && isWord x.2
  · rw [show rewBad x = true from by unfold rewBad; rw [hq]; rfl]
    go_enter Try.func80, Try.ntmps80
    go_wp2_with (go_at_call 46; refine HW.out.mono ?_; rintro e w1 ⟨rfl, hb⟩; rw [any_two, hq])
    go_ret
    exact ⟨rfl, below_trans HB1.out hb⟩
  · rw [show rewBad x = decide (x.1.length = 0) from by unfold rewBad; rw [hq]; rfl]
    go_enter Try.func80, Try.ntmps80
    go_wp2_with fail
    refine HW.out.mono ?_
    rintro e w1 ⟨rfl, hb⟩
    rw [any_two, hq]
    have x0 : w1.cell? ⟨w.heap.size, 0, none⟩ = some (.slice A0 x.1.length c0) := (((Blk.new w 70 #[.slice A0 x.1.length c0, .slice A1 x.2.length c1]).alloc _).on hb).cell 0
    have HB2 := Lib.hid (below_trans HB1.out hb); clear hb
    go_wp2
    go_ret
    exact ⟨ret_bool (len_beq _), HB2.out⟩

def validRew (xs : List tRewrite) : Bool := withinB xs.length 1 60 && !xs.any rewBad

theorem impl_ValidRewrites (A : Option Addr) (c : Nat) (xs : List tRewrite) (w : World) (h : Sl eRewrite w (Old w) A c xs) :
    Calls Try.prog 44 #[.slice A xs.length c] w fun e w' => e = .returned (.bool (validRew xs)) ∧ Below w.heap.size w w' := by
  unfold validRew
  have hI := Lib.hid (ContainsFunc_Rewrite rewBad 80 #[] A c xs w h enters_ValidRewrites1 (fun W x es _ hb hR => impl_ValidRewrites1 es x W hR)); clear h
  cases h1 : withinB xs.length 1 60
  · go_enter Try.func44, Try.ntmps44
    go_wp2_with (first | (go_at_call 78; refine (impl_size_Rewrite _ _ _ _).mono ?_; rintro e w' ⟨rfl, rfl⟩) | (go_at_call 65; refine (impl_within _ _ _ _).mono ?_; rintro e w' ⟨rfl, rfl⟩; rw [h1]))
    go_ret
    exact ⟨by simp, Below.refl _ _⟩
  · go_enter Try.func44, Try.ntmps44
    go_wp2_with (first | (go_at_call 78; refine (impl_size_Rewrite _ _ _ _).mono ?_; rintro e w' ⟨rfl, rfl⟩) | (go_at_call 65; refine (impl_within _ _ _ _).mono ?_; rintro e w' ⟨rfl, rfl⟩; rw [h1]) | (go_at_call 79; refine hI.out.mono ?_; rintro e w' ⟨rfl, hb⟩))
    go_ret
    exact ⟨by simp, hb⟩

theorem spec_l03Is (A : Option Addr) (c : Nat) (xs : List Int) (w : World) (h : Sl eInt w (Old w) A c xs) :
    Calls Try.prog 76 #[.slice A xs.length c] w fun e w' => e = .returned (.bool (isWord xs)) ∧ w = w' := by
  have hlen := h.len
  have H := Lib.hid h; clear h
  have HV : Hid (isWord xs = (decide (xs.length ≤ 400) && !xs.any (outB 0 9))) := rfl
  go_enter Try.func76, Try.ntmps76
  go_wp2
  go_loop [3] (fun i => ∃ k : Nat, k ≤ xs.length ∧ i = .int .i64 k ∧ Hid ((xs.take k).any (outB 0 9) = false)) (fun i => xs.length - (intOf i).toNat)
  case atStart => exact ⟨0, Nat.zero_le _, rfl, rfl⟩
  case round =>
    obtain ⟨k, hk, rfl, HN⟩ := hrel
    by_cases hlt : k < xs.length
    · have hltz : (k : Int) < (xs.length : Int) := by omega
      obtain ⟨b, off, es, rfl, hb, ⟨rfl, _⟩, hc⟩ := H.out.at1 rfl hlt
      have d0 : w.cell? ⟨b, off + k, none⟩ = some (.int .i64 xs[k]) := hc _ rfl
      clear hc
      have HT : Hid (outB 0 9 xs[k] = true → xs.any (outB 0 9) = true) := fun e => any_hit hlt e
      have HS : Hid (outB 0 9 xs[k] = false → (xs.take (k + 1)).any (outB 0 9) = false) := fun e => any_step hlt HN.out e
      generalize xs[k] = y at d0 HT HS
      cases q1 : withinB y 0 9
      · go_wp2_with (go_at_call 61; refine (spec_l00In _ _ _ _).mono ?_; rintro e w' ⟨rfl, rfl⟩; rw [q1])
        go_ret
        exact ⟨ret_bool (by rw [HV.out, HT.out (by unfold outB; rw [q1]; rfl)]; simp), rfl⟩
      · go_wp2_with (go_at_call 61; refine (spec_l00In _ _ _ _).mono ?_; rintro e w' ⟨rfl, rfl⟩; rw [q1])
        go_round
        case rel => exact ⟨k + 1, by omega, by go_num, HS.out (by unfold outB; rw [q1]; rfl)⟩
        case measure => simp [intOf]; omega
    · have hltz : ¬ (k : Int) < (xs.length : Int) := by omega
      obtain rfl : k = xs.length := by omega
      go_wp2
      go_ret
      have hn := HN.out
      rw [List.take_length] at hn
      exact ⟨ret_bool (by rw [HV.out, hn]; simp; omega), rfl⟩

set_option maxHeartbeats 1000000 in
theorem spec_l10Is (A : Option Addr) (c : Nat) (xs : List tRewrite) (w : World) (h : Sl eRewrite w (Old w) A c xs) :
    Calls Try.prog 39 #[.slice A xs.length c] w fun e w' => e = .returned (.bool (validRew xs)) ∧ w = w' := by
  have hlen := h.len
  have H := Lib.hid h; clear h
  by_cases h1 : xs.length < 1
  · rw [show validRew xs = false from by unfold validRew withinB; simp; omega]
    have h1' : (xs.length : Int) < 1 := by omega
    go_enter Try.func39, Try.ntmps39
    go_wp2
    go_ret
    exact ⟨rfl, rfl⟩
  by_cases h2 : xs.length > 60
  · rw [show validRew xs = false from by unfold validRew withinB; simp; omega]
    have h1' : decide ((xs.length : Int) < 1) = false := by simp; omega
    have h2' : (60 : Int) < (xs.length : Int)  := by omega
    go_enter Try.func39, Try.ntmps39
    go_wp2
    go_ret
    exact ⟨rfl, rfl⟩
  rw [show validRew xs = !xs.any rewBad from by unfold validRew; rw [withinB_true.2 (by omega)]; rfl]
  have h1' : decide ((xs.length : Int) < 1) = false := by simp; omega
  have h2' : decide ((60 : Int) < (xs.length : Int)) = false := by simp; omega
  go_enter Try.func39, Try.ntmps39
  go_wp2
  go_loop [3] (fun i => ∃ k : Nat, k ≤ xs.length ∧ i = .int .i64 k ∧ Hid ((xs.take k).any rewBad = false)) (fun i => xs.length - (intOf i).toNat)
  case atStart => exact ⟨0, Nat.zero_le _, rfl, rfl⟩
  case round =>
    obtain ⟨k, hk, rfl, HN⟩ := hrel
    by_cases hlt : k < xs.length
    · have hltz : (k : Int) < (xs.length : Int) := by omega
      obtain ⟨b, off, es, rfl, hb, hR, hc⟩ := H.out.at hlt
      obtain ⟨A0, c0, A1, c1, rfl, g0, g1⟩ := shape_Rewrite hR
      have d0 : w.cell? ⟨b, off + k * 2, none⟩ = some (.slice A0 xs[k].1.length c0) := hc 0 _ rfl
      have d1 : w.cell? ⟨b, off + k * 2 + 1, none⟩ = some (.slice A1 xs[k].2.length c1) := hc 1 _ rfl
      clear hc hR
      have hl0 := g0.len
      have HG0 := Lib.hid (spec_l03Is _ _ _ w g0); clear g0
      have HG1 := Lib.hid (spec_l03Is _ _ _ w g1); clear g1
      have HT : Hid (rewBad xs[k] = true → xs.any rewBad = true) := fun e => any_hit hlt e
      have HS : Hid (rewBad xs[k] = false → (xs.take (k + 1)).any rewBad = false) := fun e => any_step hlt HN.out e
      generalize xs[k] = y at d0 d1 HT HS HG0 HG1 hl0
      cases q0 : isWord y.1
      · have HF := Lib.hid (HT.out (by unfold rewBad; rw [q0]; rfl))
        go_wp2_with fail
        refine HG0.out.mono ?_
        rintro e w' ⟨rfl, rfl⟩
        rw [q0]
        go_wp2
        go_ret
        exact ⟨by rw [HF.out]; rfl, rfl⟩
      cases q1 : isWord y.2
      · have HF := Lib.hid (HT.out (by unfold rewBad; rw [q0, q1]; rfl))
        go_wp2_with fail
        refine HG0.out.mono ?_
        rintro e w' ⟨rfl, rfl⟩
        rw [q0]
        go_wp2_with fail
        refine HG1.out.mono ?_
        rintro e w' ⟨rfl, rfl⟩
        rw [q1]
        go_wp2
        go_ret
        exact ⟨by rw [HF.out]; rfl, rfl⟩
      by_cases q2 : y.1.length = 0
      · have q2' : ((y.1.length : Int) == 0) = true := by rw [len_beq]; exact decide_eq_true q2
        have HF := Lib.hid (HT.out (by unfold rewBad; rw [q0, q1]; simp [q2]))
        clear q2
        go_wp2_with fail
        refine HG0.out.mono ?_
        rintro e w' ⟨rfl, rfl⟩
        rw [q0]
        go_wp2_with fail
        refine HG1.out.mono ?_
        rintro e w' ⟨rfl, rfl⟩
        rw [q1]
        go_wp2
        go_ret
        exact ⟨by rw [HF.out]; rfl, rfl⟩
      · have q2' : ((y.1.length : Int) == 0) = false := by rw [len_beq]; exact decide_eq_false q2
        have HF := Lib.hid (HS.out (by unfold rewBad; rw [q0, q1]; simp [q2]))
        clear q2
        go_wp2_with fail
        refine HG0.out.mono ?_
        rintro e w' ⟨rfl, rfl⟩
        rw [q0]
        go_wp2_with fail
        refine HG1.out.mono ?_
        rintro e w' ⟨rfl, rfl⟩
        rw [q1]
        go_wp2
        go_round
        case rel => exact ⟨k + 1, by omega, by go_num, HF.out⟩
        case measure => simp [intOf]; omega
    · have hltz : ¬ (k : Int) < (xs.length : Int) := by omega
      obtain rfl : k = xs.length := by omega
      go_wp2
      go_ret
      have hn := HN.out
      rw [List.take_length] at hn
      exact ⟨ret_bool (by rw [hn]; rfl), rfl⟩

set_option maxRecDepth 100000 in
set_option maxHeartbeats 1000000 in
theorem slices_Equal (A A' : Option Addr) (c c' : Nat) (xs ys : List Int) (w : World) (h : Sl eInt w (Old w) A c xs) (h' : Sl eInt w (Old w) A' c' ys) :
    Calls Try.prog 81 #[.slice A xs.length c, .slice A' ys.length c'] w fun e w' => e = .returned (.bool (eq_L xs ys)) ∧ Dr w w' := by
  have hlen := h.len
  have hlen' := h'.len
  unfold eq_L
  by_cases hne : xs.length = ys.length
  · have hne' : ((xs.length : Int) != (ys.length : Int)) = false := by simp [hne]
    have HE := Lib.hid hne; clear hne
    have H := Lib.hid h; clear h
    have H' := Lib.hid h'; clear h'
    go_enter Try.func81, Try.ntmps81
    go_wp2
    clear hne'
    go_loopw [5, 13] (fun _ s5 wr => ∃ k : Nat, k ≤ xs.length ∧ s5 = .int .i64 k ∧ Hid (Dr w wr) ∧ Hid (∀ j (h1 : j < xs.length) (h2 : j < ys.length), j < k → eq_i xs[j] ys[j] = true)) (fun _ s5 _ => xs.length - (intOf s5).toNat)
    case atStart => exact ⟨0, Nat.zero_le _, rfl, Dr.refl _, fun j _ _ h => absurd h (Nat.not_lt_zero _)⟩
    case round =>
      obtain ⟨k, hk, rfl, HL, HN⟩ := hrel
      by_cases hlt : k < xs.length
      · have hltz : (k : Int) < (xs.length : Int) := by omega
        have hlt' : k < ys.length := by have := HE.out; omega
        have hltz' : (k : Int) < (ys.length : Int) := by omega
        obtain ⟨bp, offp, esp, rfl, hbp, ⟨rfl, _⟩, hc⟩ := H.out.at1 rfl hlt
        have dp0 : wr.cell? ⟨bp, offp + k, none⟩ = some (.int .i64 xs[k]) := (HL.out.cell _).trans (hc _ rfl)
        clear hc
        obtain ⟨bq, offq, esq, rfl, hbq, ⟨rfl, _⟩, hc⟩ := H'.out.at1 rfl hlt'
        have dq0 : wr.cell? ⟨bq, offq + k, none⟩ = some (.int .i64 ys[k]) := (HL.out.cell _).trans (hc _ rfl)
        clear hc
        have HQ0 : Hid (eq_i xs[k] ys[k] = false → eqL eq_i xs ys = false) := eqL_get xs ys k hlt hlt'
        have HQ1 : Hid (eq_i xs[k] ys[k] = true → ∀ j (h1 : j < xs.length) (h2 : j < ys.length), j < k + 1 → eq_i xs[j] ys[j] = true) := fun e j h1 h2 hj => by
          by_cases ej : j = k
          · subst ej; exact e
          · exact HN.out j h1 h2 (by omega)
        generalize xs[k] = x at dp0 HQ0 HQ1
        generalize ys[k] = y at dq0 HQ0 HQ1
        cases hq : eq_i x y
        · have hq' : (x != y) = true := by simp [eq_i] at hq; simp [hq]
          go_wp2_with fail
          go_quiet (fail)
          go_wp2
          go_ret
          exact ⟨by rw [HQ0.out hq]; rfl, HL.out.drewN _⟩
        · have hq' : (x != y) = false := by simp [eq_i] at hq; simp [hq]
          go_wp2_with fail
          go_quiet (fail)
          go_wp2
          go_roundw
          case rel => exact ⟨k + 1, by omega, by go_num, HL.out.drewN _, HQ1.out hq⟩
          case measure => simp [intOf]; omega
      · have hltz : ¬ (k : Int) < (xs.length : Int) := by omega
        obtain rfl : k = xs.length := by omega
        go_wp2
        go_ret
        exact ⟨by rw [eqL_all xs ys HE.out fun j h1 h2 => HN.out j h1 h2 h1]; rfl, HL.out⟩
  · have hne' : ((xs.length : Int) != (ys.length : Int)) = true := by simp; omega
    rw [eqL_len xs ys hne]
    clear h h' hne
    go_enter Try.func81, Try.ntmps81
    go_wp2
    go_ret
    exact ⟨rfl, Dr.refl _⟩

theorem left_ok {l : Int} {n : Nat} (h : ¬ left l n < 0) : left l n = l - (n : Int) ∧ (n : Int) ≤ l := by
  unfold left at *; split at h <;> simp_all <;> omega

theorem validRew_len2 {list : List tRewrite} (h : validRew list = true) : ∀ r ∈ list, r.1.length ≤ 400 ∧ r.2.length ≤ 400 := by
  intro r hr
  unfold validRew at h
  simp at h
  have := h.2 _ _ hr
  unfold rewBad isWord at this
  simp at this
  omega

set_option maxRecDepth 100000 in
set_option maxHeartbeats 4000000 in
theorem spec_l00OwnV (A0 : Option Addr) (c0 : Nat) (a0 : (List Int)) (w : World) (h0 : Sl eInt w (Old w) A0 c0 a0) (s0 : a0.length ≤ 1000000000) :
    Calls Try.prog 42 #[.slice A0 a0.length c0] w fun e w' => ∃ (A0' : Option Addr) (c0' : Nat) (S0' : Nat → Prop), e = .returned (.slice A0' a0.length c0') ∧ Held Nob w [rVec eInt 2 S0' A0' c0' a0] w' := by
  have l0 := h0.len
  have HH1 := Held.start Nob w
  refine enter (n := 6) Try.func42 rfl rfl rfl fun a_2 HE3 => ?_
  refine wp_seq ?_
  refine rg ?_
  refine pl_x HE3 HH1 (wt0 rfl) (x_assign rfl) rfl rfl fun a_4 HE5 => ?_
  refine wpList_nil ?_
  clear a_2 HE3
  refine nrm ?_
  refine wp_seq ?_
  refine rg ?_
  refine pl fun K_6 hK7 => ?_
  refine st_lit (m := 0) (cs := []) (e := 2) HE5 HH1 (run_lit ts_37 HE5 (vs := []) rfl rfl (by simp [Value.cells]) rfl (by decide)) (wt0 rfl) rfl rfl fun q21 a_8 w' HE9 HH10 => hK7 _ _ ?_
  refine pl_x HE9 HH10 (wt0 rfl) (x_move rfl) rfl rfl fun a_11 HE12 => ?_
  refine pl fun K_13 hK14 => ?_
  have HH15 := Held.vecFlat (E := eInt) (xs := []) (css := []) HH10 rfl (Nat.zero_le _) (fun i x hx => by simp at hx)
  refine st_appS flat_int HE12 HH15 ts_37 [0] (by decide) rfl rfl rfl (HH15.old h0) (by unfold maxLen; first | omega | (simp; done) | (simp; omega)) (by first | omega | (simp; done) | (simp; omega)) (wt0 rfl) rfl fun A22 c23 S24 a_16 w' HE17 HH18 => hK14 _ _ ?_
  have lA22 : (([] : List Int) ++ a0).length = List.length ([] : List Int) + List.length a0 := List.length_append
  refine pl_x HE17 HH18 (wt0 rfl) (x_assign rfl) rfl rfl fun a_19 HE20 => ?_
  refine wpList_nil ?_
  clear a_4 HE5 HH1 a_8 HE9 K_6 hK7 HH10 a_11 HE12 HH15 a_16 HE17 hK14 K_13
  refine nrm ?_
  refine wp_ret ?_
  refine ret1 HE20 rfl (rv_tmp rfl) ?_
  exact ⟨_, _, _, rfl, HH18.sel [0] (by decide) rfl⟩

theorem Sl.i64 {w : World} {S : Nat → Prop} {A : Option Addr} {c : Nat} {xs : List Int} (h : Sl eInt w S A c xs) : ∀ x ∈ xs, -9223372036854775808 ≤ x ∧ x ≤ 9223372036854775807 := by
  intro x hx
  obtain ⟨i, hi⟩ := List.mem_iff_getElem?.1 hx
  obtain ⟨b, off, _, _, hc⟩ := h.2.2 (fun e => by rw [e] at hx; cases hx)
  obtain ⟨es, ⟨_, h1⟩, _⟩ := hc i x hi
  exact h1

open Go.Lib in
def mk2 : List Int → List tFraction
  | a :: b :: r => (a, b) :: mk2 r
  | _ => []

open Go.Lib in
def knownL (k : Int) : List tFraction := if k = 0 then mk2 [3, 2] else if k = 1 then mk2 [455, 33, 11, 13, 1, 11, 3, 7, 11, 2, 1, 3] else mk2 [17, 91, 78, 85, 19, 51, 23, 38, 29, 33, 77, 29, 95, 23, 77, 19, 1, 17, 11, 13, 13, 11, 15, 14, 15, 2, 55, 1]

open Go.Lib in
def known (k : Int) : List tFraction × Int := if withinB k 0 2 = true then (knownL k, 0) else ([], 2)

/-- The end of a's left side of length n is the start of b's. -/
def hitO (a b : tRewrite) (same : Bool) (n : Nat) : Bool := !(same && decide ((n : Int) = (a.1.length : Int))) && eq_L (a.1.drop (a.1.length - n)) (b.1.take n)

def triO (a b : tRewrite) (n : Nat) : List (List Int) := [a.1 ++ b.1.drop n, a.2 ++ b.1.drop n, a.1.take (a.1.length - n) ++ b.2]

def ovl (a b : tRewrite) (same : Bool) : Nat → List (List (List Int))
  | 0 => []
  | n + 1 => (if hitO a b same (n + 1) = true then [triO a b (n + 1)] else []) ++ ovl a b same n

def ovlF (a b : tRewrite) (same : Bool) : List (List (List Int)) := ovl a b same (minN a.1.length b.1.length)

theorem ovl_hit {a b : tRewrite} {same : Bool} {k : Nat} {o : List (List (List Int))} {x : List (List Int)} (hk : 1 ≤ k) (h : hitO a b same k = true) (hx : x = triO a b k) : o ++ ovl a b same k = (o ++ [x]) ++ ovl a b same (k - 1) := by
  obtain ⟨n, rfl⟩ : ∃ n, k = n + 1 := ⟨k - 1, by omega⟩
  rw [ovl, if_pos h, Nat.add_sub_cancel, hx, List.append_assoc]

theorem ovl_miss {a b : tRewrite} {same : Bool} {k : Nat} {o : List (List (List Int))} (hk : 1 ≤ k) (h : hitO a b same k = false) : o ++ ovl a b same k = o ++ ovl a b same (k - 1) := by
  obtain ⟨n, rfl⟩ : ∃ n, k = n + 1 := ⟨k - 1, by omega⟩
  rw [ovl, if_neg (by rw [h]; exact Bool.false_ne_true), Nat.add_sub_cancel, List.nil_append]

theorem triO_of {a b : tRewrite} {k : Nat} (h1 : k ≤ b.1.length) (h2 : k ≤ a.1.length) : [a.1 ++ b.1.drop k, a.2 ++ b.1.drop k, (a.1 ++ b.1.drop k).take ((((a.1 ++ b.1.drop k).length : Int) - (b.1.length : Int))).toNat ++ b.2] = triO a b k := by
  have e : ((((a.1 ++ b.1.drop k).length : Int) - (b.1.length : Int))).toNat = a.1.length - k := by rw [List.length_append, List.length_drop]; omega
  unfold triO; rw [e, List.take_append_of_le_length (by omega)]

theorem joined2 (A0 : Option Addr) (c0 : Nat) (x y : List Int) (w : World) (h0 : Sl (eSl eInt) w (Old w) A0 c0 [x, y]) (s0 : (x ++ y).length ≤ 1000000000) :
    Calls Try.prog 82 #[.slice A0 ([x, y] : List (List Int)).length c0] w fun e w' => ∃ (A0' : Option Addr) (c0' : Nat), e = .returned (.slice A0' (x ++ y).length c0') ∧ So eInt w' (Fr w w') A0' c0' (x ++ y) ∧ Below w.heap.size w w' := by
  have e : [x, y].flatten = x ++ y := by simp
  have h := impl_joined A0 c0 [x, y] w h0 (by simp only [List.map_cons, List.map_nil, List.sum_cons, List.sum_nil]; rw [List.length_append] at s0; omega)
  rwa [e] at h

theorem ovl_len (a b : tRewrite) (s : Bool) : ∀ n, (ovl a b s n).length ≤ n
  | 0 => Nat.le_refl _
  | n + 1 => by
    have ih := ovl_len a b s n
    rw [ovl, List.length_append]
    split
    · rw [List.length_singleton]; omega
    · rw [List.length_nil]; omega

theorem ovlF_len {a b : tRewrite} {s : Bool} (h : a.1.length ≤ 400) : (ovlF a b s).length ≤ 400 := by
  have h1 := ovl_len a b s (minN a.1.length b.1.length)
  have h2 := minN_le1 a.1.length b.1.length
  unfold ovlF; omega

end Go.Proofs.Ythfihlfjphiihaa
