/- What the proof of FnExactReadConfig needs: contracts of the functions that it reaches, each once. -/
import Derived.Test.YthknelhboibbnaaGreatDoorProg
import Derived.Test.YthknelhboibbnaaGreatDoorQMem
import Derived.Test.YthknelhboibbnaaGreatDoorQOpen
import Derived.Test.YthknelhboibbnaaGreatDoorLReadConfiga
import Derived.WalkKit
import Derived.WalkSpells
import Derived.Below
import Derived.LoopTactic
import Derived.Outline
import Derived.Deep.QuietTactic
import Derived.BigQuiet
import Derived.Deep.LoopGhost
import Derived.Handy
import Derived.Lib.Hide
import Derived.Shelf.Abstract
import Derived.StillTailTactics
import Derived.OwnWalk
import Derived.Maps.AppendAt
import Derived.RegionTactic
import Derived.Deep.RegionHeld3
import Derived.IntWalk
import Derived.Deep.Upon
import Derived.Laws.OwnMore
import Derived.Maps.AppendAt
import Derived.Laws.BytesString
import Derived.Laws.Strings
import Derived.Lib.Bytes
import Derived.Lib.Strings
import Derived.Lib.FrozenHead
import Derived.Lib.RuneBytes
import Derived.Lib.LaidTab
import Derived.Laws.StructEq
import Derived.Lib.SliceRun
import Derived.Lib.AppendZeros
import Derived.Lib.ItoaLen
import Derived.Lib.Join
import Derived.Shelf.Strconv.Itoa4
import Derived.Shelf.Strings.OnBuilder
import Derived.Shelf.Strings.BuilderK
import Derived.Shelf.Strings.BuilderRune
import Derived.Shelf.LaysM
import Derived.Ground.NamesProg
import Derived.Lib.ParseIntBTie
import Derived.Lib.SplitLaws
import Derived.Lib.Replace
import Derived.Shelf.LaysC
import Derived.Shelf.Strconv.ErrVarParseInt
import Derived.Shelf.Strconv.ParseIntPublic10
import Derived.Shelf.Strings.Prefix
import Derived.Shelf.Strings.Cut
import Derived.Shelf.Strings.Split
import Derived.Shelf.Strings.Replace
import Derived.Shelf.Small.Wraps
import Derived.Stop.IfaceNil
namespace Go.Proofs.YthknelhboibbnaaGreatDoor
open Go.RowKit

set_option maxRecDepth 100000 in
set_option maxHeartbeats 1000000 in
theorem mark_Config_c (es : List Value) (x : tConfig) (k : Int) (w : World) (S : Nat → Prop) (h : eConfig.O w S es x) (hS : ∀ b, S b → b < w.heap.size) (hk : 0 ≤ k) (hk' : k + (cv_Config x : Int) ≤ 1000000000000) :
    Calls Tryz.prog 12 #[.agg es.toArray, .int .i64 k] w fun e w' => e = .returned (.int .i64 (k + (cv_Config x : Int))) ∧ eConfig.O w' S es (mv_Config x k) ∧ Chg S w w' := by
  obtain ⟨_, _, S0, R0, rfl, p0, r0, ⟨rfl, g0⟩, ⟨_, _, S1, R1, rfl, p1, r1, ⟨A1, c1, rfl, o1⟩, ⟨A2, c2, rfl, o2⟩⟩⟩ := h
  have HB0 : Hid (Below w.heap.size w (w.alloc (.cells #[.int .i64 x.1, .slice A1 x.2.1.length c1, .slice A2 x.2.2.length c2] 28))) := (Below.refl _ _).alloc (Nat.le_refl _) _
  have HS0 := Lib.hid hS; clear hS
  have SUB1 : Hid (∀ b, S1 b → S b) := fun b hb => (r0 b (p1 b hb).1)
  have DIS1_2 : Hid (∀ b, S1 b → R1 b → False) := fun b hb hb2 => (p1 b hb).2 hb2
  have SUB2 : Hid (∀ b, R1 b → S b) := fun b hb => (r0 b (r1 b hb))
  have O1 := Lib.hid (o1.keep (w' := w.alloc (.cells #[.int .i64 x.1, .slice A1 x.2.1.length c1, .slice A2 x.2.2.length c2] 28)) fun b hb => Below.heap_alloc _ _ _ (HS0.out b (SUB1.out b hb))); clear o1
  have ct1 := Lib.hid (show (0 : Int) ≤ (ct_L x.2.1 : Int) from by omega)
  have O2 := Lib.hid (o2.keep (w' := w.alloc (.cells #[.int .i64 x.1, .slice A1 x.2.1.length c1, .slice A2 x.2.2.length c2] 28)) fun b hb => Below.heap_alloc _ _ _ (HS0.out b (SUB2.out b hb))); clear o2
  have ct2 := Lib.hid (show (0 : Int) ≤ (ct_L x.2.2 : Int) from by omega)
  have HCT : Hid (cv_Config x = ct_L x.2.1 + ct_L x.2.2) := rfl
  go_enter Tryz.func12, Tryz.ntmps12
  go_wp2_with fail
  refine (mark_L_c _ _ x.2.1 _ _ S1 O1.out (fun b hb => Nat.lt_of_lt_of_le (HS0.out b (SUB1.out b hb)) HB0.out.size) (by omega) (by have := HCT.out; omega)).mono ?_
  rintro e w1 ⟨rfl, hs, hc⟩
  have HX : Hid (Blk w1 w.heap.size 28 #[.int .i64 x.1, .slice A1 x.2.1.length c1, .slice A2 x.2.2.length c2]) := (hc.block w.heap.size (by simp) (fun hb => Nat.lt_irrefl _ (HS0.out _ (SUB1.out _ hb)))).trans (Blk.new w 28 #[.int .i64 x.1, .slice A1 x.2.1.length c1, .slice A2 x.2.2.length c2])
  have O2_ := Lib.hid (O2.out.keep fun b hb => hc.block b (Nat.lt_of_lt_of_le (HS0.out b (SUB2.out b hb)) HB0.out.size) (fun hb2 => DIS1_2.out b hb2 hb)); clear O2; have O2 := O2_; clear O2_
  clear O1; have O1 := Lib.hid hs; clear hs
  have HG1 : Hid (Chg S (w.alloc (.cells #[.int .i64 x.1, .slice A1 x.2.1.length c1, .slice A2 x.2.2.length c2] 28)) w1) := hc.mono SUB1.out
  clear hc
  have HXo := HX; clear HX
  have x0 : w1.cell? ⟨w.heap.size, 0, none⟩ = some (.int .i64 x.1) := HXo.out.cell 0
  have x1 : w1.cell? ⟨w.heap.size, 1, none⟩ = some (.slice A1 x.2.1.length c1) := HXo.out.cell 1
  have x2 : w1.cell? ⟨w.heap.size, 2, none⟩ = some (.slice A2 x.2.2.length c2) := HXo.out.cell 2
  go_wp2_with fail
  refine (mark_L_c _ _ x.2.2 _ _ R1 O2.out (fun b hb => Nat.lt_of_lt_of_le (Nat.lt_of_lt_of_le (HS0.out b (SUB2.out b hb)) HB0.out.size) HG1.out.size) (by omega) (by have := HCT.out; omega)).mono ?_
  rintro e w2 ⟨rfl, hs, hc⟩
  have HX : Hid (Blk w2 w.heap.size 28 #[.int .i64 x.1, .slice A1 x.2.1.length c1, .slice A2 x.2.2.length c2]) := (hc.block w.heap.size (by exact HXo.out.lt) (fun hb => Nat.lt_irrefl _ (HS0.out _ (SUB2.out _ hb)))).trans HXo.out
  have O1_ := Lib.hid (O1.out.keep fun b hb => hc.block b (Nat.lt_of_lt_of_le (Nat.lt_of_lt_of_le (HS0.out b (SUB1.out b hb)) HB0.out.size) HG1.out.size) (fun hb2 => DIS1_2.out b hb hb2)); clear O1; have O1 := O1_; clear O1_
  clear O2; have O2 := Lib.hid hs; clear hs
  have HG2 : Hid (Chg S (w.alloc (.cells #[.int .i64 x.1, .slice A1 x.2.1.length c1, .slice A2 x.2.2.length c2] 28)) w2) := HG1.out.trans (hc.mono SUB2.out)
  clear hc
  clear HXo
  have HXo := HX; clear HX
  clear x0 x1 x2
  have x0 : w2.cell? ⟨w.heap.size, 0, none⟩ = some (.int .i64 x.1) := HXo.out.cell 0
  have x1 : w2.cell? ⟨w.heap.size, 1, none⟩ = some (.slice A1 x.2.1.length c1) := HXo.out.cell 1
  have x2 : w2.cell? ⟨w.heap.size, 2, none⟩ = some (.slice A2 x.2.2.length c2) := HXo.out.cell 2
  go_wp2
  go_ret
  refine ⟨ret_int (by have := HCT.out; omega), ?_, (Chg.of_below HB0.out).trans HG2.out⟩
  exact ⟨[_], _, S0, R0, rfl, p0, r0, ⟨rfl, g0⟩, ⟨[_], _, S1, R1, rfl, p1, r1, ⟨A1, c1, congrArg (fun m => [Value.slice A1 m c1]) (show x.2.1.length = (mv_Config x k).2.1.length from (mkL_len _ _ _ _).symm), O1.out⟩, ⟨A2, c2, congrArg (fun m => [Value.slice A2 m c2]) (show x.2.2.length = (mv_Config x k).2.2.length from (mkL_len _ _ _ _).symm), O2.out⟩⟩⟩

set_option maxRecDepth 100000 in
set_option maxHeartbeats 1000000 in
theorem held_Config_c (es : List Value) (x : tConfig) (k : Int) (w : World) (h : eConfig.R w (Old w) es (mv_Config x k)) (hk : 0 ≤ k) (hk' : k + (cv_Config x : Int) ≤ 1000000000000) :
    Calls Tryz.prog 13 #[.agg es.toArray, .int .i64 k] w fun e w' => e = .returned (.int .i64 (k + (cv_Config x : Int))) ∧ Below w.heap.size w w' := by
  obtain ⟨A1, c1, A2, c2, rfl, g0, g1, g2⟩ := shape_Config h
  have e1 : (mv_Config x k).2.1.length = x.2.1.length := mkL_len _ _ _ _
  have e2 : (mv_Config x k).2.2.length = x.2.2.length := mkL_len _ _ _ _
  try clear h
  rw [e1, e2]
  clear e1 e2
  show Calls Tryz.prog 13 #[.agg #[.int .i64 x.1, .slice A1 x.2.1.length c1, .slice A2 x.2.2.length c2], .int .i64 k] w _
  have HB0 : Hid (Below w.heap.size w (w.alloc (.cells #[.int .i64 x.1, .slice A1 x.2.1.length c1, .slice A2 x.2.2.length c2] 28))) := (Below.refl _ _).alloc (Nat.le_refl _) _
  have HX := Lib.hid (Blk.new w 28 #[.int .i64 x.1, .slice A1 x.2.1.length c1, .slice A2 x.2.2.length c2])
  have O1 := Lib.hid (g1.on HB0.out); clear g1
  have O2 := Lib.hid (g2.on HB0.out); clear g2
  have HCT : Hid (cv_Config x = ct_L x.2.1 + ct_L x.2.2) := rfl
  go_enter Tryz.func13, Tryz.ntmps13
  go_wp2_with fail
  refine (held_L_c _ _ x.2.1 _ _ (by exact O1.out) (by omega) (by have := HCT.out; omega)).mono ?_
  rintro e w1 ⟨rfl, hb⟩
  have HB1 := Lib.hid hb; clear hb
  have x0 : w1.cell? ⟨w.heap.size, 0, none⟩ = some (.int .i64 x.1) := (HX.out.on HB1.out).cell 0
  have x1 : w1.cell? ⟨w.heap.size, 1, none⟩ = some (.slice A1 x.2.1.length c1) := (HX.out.on HB1.out).cell 1
  have x2 : w1.cell? ⟨w.heap.size, 2, none⟩ = some (.slice A2 x.2.2.length c2) := (HX.out.on HB1.out).cell 2
  have n0 : ¬ k + (ct_L x.2.1 : Int) < 0 := by omega
  go_wp2_with fail
  refine (held_L_c _ _ x.2.2 _ _ (by exact O2.out.on HB1.out) (by omega) (by have := HCT.out; omega)).mono ?_
  rintro e w2 ⟨rfl, hb⟩
  have HB2 := Lib.hid (below_trans HB1.out hb); clear hb
  clear x0 x1 x2
  have x0 : w2.cell? ⟨w.heap.size, 0, none⟩ = some (.int .i64 x.1) := (HX.out.on HB2.out).cell 0
  have x1 : w2.cell? ⟨w.heap.size, 1, none⟩ = some (.slice A1 x.2.1.length c1) := (HX.out.on HB2.out).cell 1
  have x2 : w2.cell? ⟨w.heap.size, 2, none⟩ = some (.slice A2 x.2.2.length c2) := (HX.out.on HB2.out).cell 2
  have n1 : ¬ k + (ct_L x.2.1 : Int) + (ct_L x.2.2 : Int) < 0 := by omega
  go_wp2
  go_ret
  exact ⟨ret_int (by have := HCT.out; omega), below_trans HB0.out HB2.out⟩

set_option maxHeartbeats 1000000 in
theorem mark_SRule_c (A : Option Addr) (c : Nat) (xs : List tRule) (k : Int) (w : World) (S : Nat → Prop) (h : So eRule w S A c xs) (_hS : ∀ b, S b → b < w.heap.size) (hk : 0 ≤ k) (hk' : k + (ct_SRule xs : Int) ≤ 1000000000000) :
    Calls Tryz.prog 39 #[.slice A xs.length c, .int .i64 k] w fun e w' => e = .returned (.int .i64 (k + (ct_SRule xs : Int))) ∧ So eRule w' S A c (mk_SRule xs k) ∧ Chg S w w' := by
  have hlen := h.sl.len
  clear _hS
  have H := Lib.hid h; clear h
  have HC : Hid (ct_SRule xs = cntL ct_Rule xs) := rfl
  go_enter Tryz.func39, Tryz.ntmps39
  go_wp2
  go_loopw [1, 5] (fun s1 s5 wr => ∃ (i : Nat) (q : Int), i ≤ xs.length ∧ s5 = .int .i64 i ∧ s1 = .int .i64 q ∧ 0 ≤ q ∧ q ≤ 1000000000000 ∧ Hid (q = k + (cntL ct_Rule (xs.take i) : Int)) ∧ Hid (So eRule wr S A c (mkTo mk_Rule ct_Rule xs k i)) ∧ Hid (Chg S w wr)) (fun _ s5 _ => xs.length - (intOf s5).toNat)
  case atStart => exact ⟨0, k, Nat.zero_le _, rfl, rfl, hk, by omega, by show _ = _; simp [cntL], by show So _ _ _ _ _ _; rw [mkTo_zero]; exact H.out, Chg.refl _ _⟩
  case round =>
    obtain ⟨i, q, hi, rfl, rfl, hq0, hq1, HQ, HS, HG⟩ := hrel
    by_cases hlt : i < xs.length
    · have hltz : (i : Int) < (xs.length : Int) := by omega
      have HQ2 : Hid (q + 3 ≤ 1000000000000 ∧ q + 3 = k + (cntL ct_Rule (xs.take (i + 1)) : Int)) := by
        have h1 := cntL_take ct_Rule xs i hlt
        have h2 := cntL_le ct_Rule xs (i + 1)
        have h3 : ct_Rule xs[i] = 3 := rfl
        have h4 := HQ.out
        have h5 := HC.out
        refine ⟨?_, ?_⟩ <;> omega
      have hq2 := HQ2.out.1
      obtain ⟨b, off, t, cur, T, es, rfl, hSb, hB, hT, hO, hcells, hre⟩ := HS.out.at (k := i) (by rw [mkTo_len]; exact hlt)
      have hel := eRule.len (eRule.read hO)
      obtain ⟨v0, hv0⟩ : ∃ v, cur[off + i * 3]? = some v := ⟨_, hcells 0 _ (List.getElem?_eq_getElem (by rw [hel]; decide))⟩
      obtain ⟨v1, hv1⟩ : ∃ v, cur[off + i * 3 + 1]? = some v := ⟨_, hcells 1 _ (List.getElem?_eq_getElem (by rw [hel]; decide))⟩
      obtain ⟨v2, hv2⟩ : ∃ v, cur[off + i * 3 + 2]? = some v := ⟨_, hcells 2 _ (List.getElem?_eq_getElem (by rw [hel]; decide))⟩
      have e0 : wr.cell? ⟨b, off + i * 3, none⟩ = some v0 := (hB.cell _).trans hv0
      have f0 := hB.frozen (off + i * 3)
      have e1 : wr.cell? ⟨b, off + i * 3 + 1, none⟩ = some v1 := (hB.cell _).trans hv1
      have f1 := hB.frozen (off + i * 3 + 1)
      have e2 : wr.cell? ⟨b, off + i * 3 + 2, none⟩ = some v2 := (hB.cell _).trans hv2
      have f2 := hB.frozen (off + i * 3 + 2)
      clear hv0 hv1 hv2
      have HB := Lib.hid hB; clear hB hcells hel
      have HRE : Hid (So eRule (((wr.setCell ⟨b, off + i * 3, none⟩ (.int .i64 (q))).setCell ⟨b, off + i * 3 + 1, none⟩ (.int .i64 (q + 1))).setCell ⟨b, off + i * 3 + 2, none⟩ (.int .i64 (q + 1 + 1))) S (some ⟨b, off, none⟩) c (mkTo mk_Rule ct_Rule xs k (i + 1))) := by
        show So _ _ _ _ _ _
        rw [← mkTo_step mk_Rule ct_Rule xs k i hlt, ← HQ.out]
        refine hre _ [.int .i64 (q), .int .i64 (q + 1), .int .i64 (q + 1 + 1)] _ (oPrI (i64_small (by omega) (by omega)) (oPrI (i64_small (by omega) (by omega)) (oI (i64_small (by omega) (by omega))))) ?_ (fun m hm hne _ => ?_)
        · exact (((HB.out.set _ _).set _ _).set _ _)
        · rw [Below.heap_setCell _ _ _ _ (by exact hne), Below.heap_setCell _ _ _ _ (by exact hne), Below.heap_setCell _ _ _ _ (by exact hne)]
      clear hre hO hT
      have HG2 : Hid (Chg S w (((wr.setCell ⟨b, off + i * 3, none⟩ (.int .i64 (q))).setCell ⟨b, off + i * 3 + 1, none⟩ (.int .i64 (q + 1))).setCell ⟨b, off + i * 3 + 2, none⟩ (.int .i64 (q + 1 + 1)))) := (((HG.out.set (by exact hSb) _).set (by exact hSb) _).set (by exact hSb) _)
      have HSB := Lib.hid hSb; clear hSb
      go_wp2
      go_roundw
      case rel => exact ⟨i + 1, q + 1 + 1 + 1, by omega, by go_num, rfl, by omega, by omega, by show _ = _; have := HQ2.out.2; omega, HRE.out, HG2.out⟩
      case measure => simp [intOf]; omega
    · have hltz : ¬ (i : Int) < (xs.length : Int) := by omega
      obtain rfl : i = xs.length := by omega
      have h2 := HQ.out
      rw [List.take_length] at h2
      have h3 := HS.out
      rw [mkTo_end] at h3
      have H2 := Lib.hid h2; have H3 := Lib.hid h3; clear h2 h3
      go_wp2
      go_ret
      exact ⟨ret_int (by rw [H2.out, HC.out]), H3.out, HG.out⟩

set_option maxRecDepth 100000 in
set_option maxHeartbeats 1000000 in
theorem mark_Machine_c (es : List Value) (x : tMachine) (k : Int) (w : World) (S : Nat → Prop) (h : eMachine.O w S es x) (hS : ∀ b, S b → b < w.heap.size) (hk : 0 ≤ k) (hk' : k + (cv_Machine x : Int) ≤ 1000000000000) :
    Calls Tryz.prog 11 #[.agg es.toArray, .int .i64 k] w fun e w' => e = .returned (.int .i64 (k + (cv_Machine x : Int))) ∧ eMachine.O w' S es (mv_Machine x k) ∧ Chg S w w' := by
  obtain ⟨_, _, S0, R0, rfl, p0, r0, ⟨rfl, g0⟩, ⟨_, _, S1, R1, rfl, p1, r1, ⟨rfl, g1⟩, ⟨A2, c2, rfl, o2⟩⟩⟩ := h
  have HB0 : Hid (Below w.heap.size w (w.alloc (.cells #[.int .i64 x.1, .int .i64 x.2.1, .slice A2 x.2.2.length c2] 33))) := (Below.refl _ _).alloc (Nat.le_refl _) _
  have HS0 := Lib.hid hS; clear hS
  have SUB2 : Hid (∀ b, R1 b → S b) := fun b hb => (r0 b (r1 b hb))
  have O2 := Lib.hid (o2.keep (w' := w.alloc (.cells #[.int .i64 x.1, .int .i64 x.2.1, .slice A2 x.2.2.length c2] 33)) fun b hb => Below.heap_alloc _ _ _ (HS0.out b (SUB2.out b hb))); clear o2
  have ct2 := Lib.hid (show (0 : Int) ≤ (ct_SRule x.2.2 : Int) from by omega)
  have HCT : Hid (cv_Machine x = ct_SRule x.2.2) := rfl
  go_enter Tryz.func11, Tryz.ntmps11
  go_wp2_with fail
  refine (mark_SRule_c _ _ x.2.2 _ _ R1 O2.out (fun b hb => Nat.lt_of_lt_of_le (HS0.out b (SUB2.out b hb)) HB0.out.size) (by omega) (by have := HCT.out; omega)).mono ?_
  rintro e w1 ⟨rfl, hs, hc⟩
  have HX : Hid (Blk w1 w.heap.size 33 #[.int .i64 x.1, .int .i64 x.2.1, .slice A2 x.2.2.length c2]) := (hc.block w.heap.size (by simp) (fun hb => Nat.lt_irrefl _ (HS0.out _ (SUB2.out _ hb)))).trans (Blk.new w 33 #[.int .i64 x.1, .int .i64 x.2.1, .slice A2 x.2.2.length c2])
  clear O2; have O2 := Lib.hid hs; clear hs
  have HG1 : Hid (Chg S (w.alloc (.cells #[.int .i64 x.1, .int .i64 x.2.1, .slice A2 x.2.2.length c2] 33)) w1) := hc.mono SUB2.out
  clear hc
  have HXo := HX; clear HX
  have x0 : w1.cell? ⟨w.heap.size, 0, none⟩ = some (.int .i64 x.1) := HXo.out.cell 0
  have x1 : w1.cell? ⟨w.heap.size, 1, none⟩ = some (.int .i64 x.2.1) := HXo.out.cell 1
  have x2 : w1.cell? ⟨w.heap.size, 2, none⟩ = some (.slice A2 x.2.2.length c2) := HXo.out.cell 2
  go_wp2
  go_ret
  refine ⟨ret_int (by have := HCT.out; omega), ?_, (Chg.of_below HB0.out).trans HG1.out⟩
  exact ⟨[_], _, S0, R0, rfl, p0, r0, ⟨rfl, g0⟩, ⟨[_], _, S1, R1, rfl, p1, r1, ⟨rfl, g1⟩, ⟨A2, c2, congrArg (fun m => [Value.slice A2 m c2]) (show x.2.2.length = (mv_Machine x k).2.2.length from (mkL_len _ _ _ _).symm), O2.out⟩⟩⟩

theorem cntL_const {α : Type} (c : α → Nat) (n : Nat) (xs : List α) (h : ∀ x, c x = n) : cntL c xs = n * xs.length := by
  unfold cntL
  induction xs with
  | nil => simp
  | cons x xs ih => rw [List.map_cons, List.sum_cons, ih, h, List.length_cons, Nat.mul_succ]; omega

/-- A slice of the call's own, from block `base` on, holding flat elements. -/
def Row {α : Type} (E : Enc α) (enc : α → List Value) (t : TypeId) (w : World) (base : Nat) (v : Value) (xs : List α) : Prop :=
  w.ownsRow base t E.size v xs.length (xs.flatMap enc) ∧ ∀ x ∈ xs, ∀ W : World, E.O W (fun _ => False) (enc x) x

theorem flat_get {α : Type} (enc : α → List Value) (s : Nat) : ∀ (xs : List α), (∀ x ∈ xs, (enc x).length = s) → ∀ (i : Nat) (x : α), xs[i]? = some x → ∀ j, j < s → (xs.flatMap enc)[i * s + j]? = (enc x)[j]?
  | [], _, i, x, hx, _, _ => by simp at hx
  | y :: ys, h, 0, x, hx, j, hj => by
    simp at hx; subst hx
    rw [List.flatMap_cons, Nat.zero_mul, Nat.zero_add, List.getElem?_append_left (by rw [h y (by simp)]; exact hj)]
  | y :: ys, h, i + 1, x, hx, j, hj => by
    have hy := h y (by simp)
    rw [List.flatMap_cons, Nat.succ_mul, List.getElem?_append_right (by rw [hy]; omega), hy, show i * s + s + j - s = i * s + j from by omega]
    exact flat_get enc s ys (fun z hz => h z (by simp [hz])) i x (by simpa using hx) j hj

theorem Row.so {α : Type} {E : Enc α} {enc : α → List Value} {t : TypeId} {w0 w : World} {v : Value} {xs : List α} (h : Row E enc t w w0.heap.size v xs) : ∃ A c, v = .slice A xs.length c ∧ So E w (Fr w0 w) A c xs := by
  obtain ⟨h1, h2⟩ := h
  rcases h1.2 with ⟨rfl, hn⟩ | ⟨g, cap, cur, rfl, hg, hh, hnc, hcm, hcs, htk⟩
  · have hx : xs = [] := List.eq_nil_of_length_eq_zero hn
    subst hx
    exact ⟨none, 0, rfl, So.nil (Nat.zero_le _)⟩
  · refine ⟨_, cap, rfl, hnc, hcm, fun hne => ⟨g, 0, t, cur, fun _ _ => False, rfl, ⟨hg, Blk.lt (t := t) (cur := cur) hh⟩, hh, fun _ _ h => h.elim, fun _ _ _ h => h.elim, fun i x hx => ⟨enc x, h2 x (List.mem_of_getElem? hx) w, fun j u hu => ?_⟩⟩⟩
    have hi := (List.getElem?_eq_some_iff.1 hx).1
    have hj := (List.getElem?_eq_some_iff.1 hu).1
    have hl : ∀ y ∈ xs, (enc y).length = E.size := fun y hy => E.len (E.read (h2 y hy w))
    rw [hl x (List.mem_of_getElem? hx)] at hj
    have h3 := flat_get enc E.size xs hl i x hx j hj
    rw [← htk] at h3
    have hlt : i * E.size + j < xs.length * E.size := by
      have : (i + 1) * E.size ≤ xs.length * E.size := Nat.mul_le_mul_right _ (by omega)
      rw [Nat.succ_mul] at this; omega
    rw [List.getElem?_take_of_lt hlt, Array.getElem?_toList] at h3
    rw [Nat.zero_add, h3]; exact hu

theorem Row.nil {α : Type} {E : Enc α} {enc : α → List Value} {t : TypeId} {w : World} {base : Nat} : Row E enc t w base (.slice none 0 0) [] := ⟨World.ownsRow_nil _ _ _ _, fun _ h => by simp at h⟩

/-- `[]T{}`: an empty row of its own. -/
theorem Row.empty {α : Type} {E : Enc α} {enc : α → List Value} {t : TypeId} {w : World} {base : Nat} (hb : base ≤ w.heap.size) : Row E enc t (w.alloc (.cells #[] t)) base (.slice (some ⟨w.heap.size, 0, none⟩) 0 0) [] :=
  ⟨⟨by simp, .inr ⟨_, 0, #[], rfl, hb, Blk.new w t #[], Nat.le_refl _, Nat.zero_le _, by simp, by simp⟩⟩, fun _ h => by simp at h⟩

def encInt (x : Int) : List Value := [.int .i64 x]

theorem Row.keep {α : Type} {E : Enc α} {enc : α → List Value} {t : TypeId} {w w' : World} {base : Nat} {v : Value} {xs : List α} (h : Row E enc t w base v xs) (hk : ∀ b, v.ownBlock = some b → w'.heap[b]? = w.heap[b]?) : Row E enc t w' base v xs := by
  obtain ⟨⟨h1, h2⟩, h3⟩ := h
  refine ⟨⟨h1, ?_⟩, h3⟩
  rcases h2 with h2 | ⟨g, cap, cur, rfl, hg, hh, r⟩
  · exact .inl h2
  · exact .inr ⟨g, cap, cur, rfl, hg, (hk g rfl).trans hh, r⟩

theorem Row.lt {α : Type} {E : Enc α} {enc : α → List Value} {t : TypeId} {w : World} {base : Nat} {v : Value} {xs : List α} (h : Row E enc t w base v xs) : ∀ b, v.ownBlock = some b → base ≤ b ∧ b < w.heap.size := h.1.lt

theorem Row.on {α : Type} {E : Enc α} {enc : α → List Value} {t : TypeId} {w w' : World} {base : Nat} {v : Value} {xs : List α} (h : Row E enc t w base v xs) (hb : Below w.heap.size w w') : Row E enc t w' base v xs := h.keep fun b hv => hb.block b (h.lt b hv).2

theorem Row.snoc {α : Type} {E : Enc α} {enc : α → List Value} {t : TypeId} {w w' : World} {base : Nat} {v v' : Value} {xs : List α} {x : α} (h : Row E enc t w base v xs) (ho : w'.ownsRow base t E.size v' (xs.length + 1) (xs.flatMap enc ++ enc x)) (hx : ∀ W : World, E.O W (fun _ => False) (enc x) x) : Row E enc t w' base v' (xs ++ [x]) := by
  refine ⟨?_, fun y hy => ?_⟩
  · rw [List.length_append, List.length_singleton, List.flatMap_append]
    simpa using ho
  · rcases List.mem_append.1 hy with h1 | h1
    · exact h.2 y h1
    · rw [List.mem_singleton.1 h1]; exact hx

/-- Elements whose cells lead nowhere. -/
structure Flat {α : Type} (E : Enc α) (enc : α → List Value) : Prop where
  r : ∀ {W : World} {S : Nat → Prop} {cs : List Value} {x : α}, E.R W S cs x → cs = enc x ∧ ∀ W' : World, E.O W' (fun _ => False) (enc x) x
  one : ∀ (x : α), ∀ u ∈ enc x, u.oneCell' = true

theorem flat_int : Flat eInt encInt := ⟨fun h => ⟨h.1, fun _ => ⟨rfl, h.2⟩⟩, fun x u hu => by simp [encInt] at hu; subst hu; rfl⟩

theorem flatMap_at {α : Type} (enc : α → List Value) (s : Nat) (hs : 0 < s) : ∀ (ys : List α), (∀ y ∈ ys, (enc y).length = s) → ∀ (j : Nat) (u : Value), (ys.flatMap enc)[j]? = some u → ∃ y, ys[j / s]? = some y ∧ (enc y)[j % s]? = some u
  | [], _, j, u, h => by simp at h
  | y :: ys, hl, j, u, h => by
    have hy := hl y (by simp)
    rw [List.flatMap_cons] at h
    by_cases hj : j < s
    · rw [List.getElem?_append_left (by omega)] at h
      exact ⟨y, by rw [Nat.div_eq_of_lt hj]; rfl, by rw [Nat.mod_eq_of_lt hj]; exact h⟩
    · rw [List.getElem?_append_right (by omega), hy] at h
      obtain ⟨z, h1, h2⟩ := flatMap_at enc s hs ys (fun z hz => hl z (by simp [hz])) (j - s) u h
      refine ⟨z, ?_, ?_⟩
      · rw [Nat.div_eq_sub_div hs (by omega), List.getElem?_cons_succ]; exact h1
      · rw [Nat.mod_eq_sub_mod (by omega)]; exact h2

theorem flatMap_len {α : Type} (enc : α → List Value) (s : Nat) (ys : List α) (h : ∀ y ∈ ys, (enc y).length = s) : (ys.flatMap enc).length = ys.length * s := by
  induction ys with
  | nil => simp
  | cons y ys ih => rw [List.flatMap_cons, List.length_append, ih (fun z hz => h z (by simp [hz])), h y (by simp), List.length_cons, Nat.succ_mul]; omega

theorem Flat.sl {α : Type} {E : Enc α} {enc : α → List Value} (hf : Flat E enc) {w : World} {S : Nat → Prop} {A : Option Addr} {c : Nat} {ys : List α} (h : Sl E w S A c ys) : ∀ y ∈ ys, ∀ W : World, E.O W (fun _ => False) (enc y) y := by
  intro y hy
  obtain ⟨i, hi, rfl⟩ := List.getElem_of_mem hy
  obtain ⟨b, off, es, _, _, h1, _⟩ := h.at hi
  exact (hf.r h1).2

theorem Flat.len {α : Type} {E : Enc α} {enc : α → List Value} {y : α} (h : ∀ W : World, E.O W (fun _ => False) (enc y) y) : (enc y).length = E.size := E.len (E.read (h default))

theorem Flat.cells {α : Type} {E : Enc α} {enc : α → List Value} (hf : Flat E enc) {w : World} {S : Nat → Prop} {b off : Nat} {c : Nat} {ys : List α} (h : Sl E w S (some ⟨b, off, none⟩) c ys) : ∀ j u, (ys.flatMap enc)[j]? = some u → w.cell? ((⟨b, off, none⟩ : Addr).add j) = some u := by
  intro j u hu
  obtain ⟨y, h1, h2⟩ := flatMap_at enc E.size E.pos ys (fun y hy => Flat.len (hf.sl h y hy)) j u hu
  have hi := (List.getElem?_eq_some_iff.1 h1).1
  obtain ⟨b', off', es, hA, _, h3, h4⟩ := h.at hi
  simp only [Option.some.injEq, Addr.mk.injEq, and_true] at hA
  obtain ⟨rfl, rfl⟩ := hA
  have hy : ys[j / E.size] = y := (List.getElem?_eq_some_iff.1 h1).2
  rw [hy] at h3
  rw [(hf.r h3).1] at h4
  have := h4 (j % E.size) u h2
  rw [show off + j / E.size * E.size + j % E.size = off + j from by rw [Nat.add_assoc, Nat.div_add_mod']] at this
  rw [Addr.add_lit]; exact this

/-- The facts on a type of elements that an append wants. -/
structure Elem {α : Type} (P : Program) (E : Enc α) (t e : TypeId) (bytes : Nat) : Prop where
  under : P.underlying t = some (.slice e)
  info : ∃ i z, P.info? e = some i ∧ i.zero = some z ∧ i.size = E.size ∧ i.bytes = bytes ∧ z.cells.size = E.size

theorem Row.all {α : Type} {E : Enc α} {enc : α → List Value} {t : TypeId} {w : World} {base : Nat} {v : Value} {xs ys : List α} (h : Row E enc t w base v xs) {w' : World} {v' : Value} (ho : w'.ownsRow base t E.size v' (xs.length + ys.length) (xs.flatMap enc ++ ys.flatMap enc)) (hy : ∀ y ∈ ys, ∀ W : World, E.O W (fun _ => False) (enc y) y) : Row E enc t w' base v' (xs ++ ys) := by
  refine ⟨by rw [List.length_append, List.flatMap_append]; exact ho, fun y hm => ?_⟩
  rcases List.mem_append.1 hm with h1 | h1
  · exact h.2 y h1
  · exact hy y h1

theorem Row.shape {α : Type} {E : Enc α} {enc : α → List Value} {t : TypeId} {w : World} {base : Nat} {v : Value} {xs : List α} (h : Row E enc t w base v xs) : ∃ A c, v = .slice A xs.length c ∧ xs.length ≤ c ∧ c ≤ maxLen := by
  rcases h.1.2 with ⟨rfl, hn⟩ | ⟨g, cap, cur, rfl, hg, hh, hnc, hcm, _⟩
  · exact ⟨none, 0, by rw [hn], by omega, Nat.zero_le _⟩
  · exact ⟨_, cap, rfl, hnc, hcm⟩

theorem run_append_row {α : Type} {P : Program} {E : Enc α} {enc : α → List Value} (hf : Flat E enc) {t e : TypeId} {bytes : Nat} (he : Elem P E t e bytes) (ty : TypeId) {w : World} {base : Nat} {v : Value} {xs ys : List α} (hR : Row E enc e w base v xs)
    {S : Nat → Prop} {A : Option Addr} {c : Nat} (hS : Sl E w S A c ys) (h63 : xs.length + ys.length ≤ maxLen) (hbytes : (xs.length + ys.length) * bytes ≤ 140737488355328) (hbase : base ≤ w.heap.size) :
    ∃ v' w', (Builtin.append_ #[t, t] ty #[v, .slice A ys.length c]).run P w = .ok v' w' ∧ Row E enc e w' base v' (xs ++ ys) ∧ w.grownBy w' v.ownBlock ∧ (v'.ownBlock = v.ownBlock ∨ v'.ownBlock = some w.heap.size) := by
  obtain ⟨i, z, hi, hz0, hz1, hz2, hz3⟩ := he.info
  have hlen : ∀ y ∈ ys, (enc y).length = E.size := fun y hy => Flat.len (hf.sl hS y hy)
  cases A with
  | none =>
    have hy : ys = [] := Classical.byContradiction fun hn => by
      obtain ⟨b, off, hA, _⟩ := hS.2.2 hn
      cases hA
    subst hy
    obtain ⟨A', c', rfl, hle, _⟩ := hR.shape
    refine ⟨_, w, run_append_nothing w t t ty e i he.under hi A' xs.length c' hle (.slice none 0 c) (Src.ofNil w he.under c), by rw [List.append_nil]; exact hR, World.grownBy.refl _ _, .inl rfl⟩
  | some ad =>
    obtain ⟨b, off, sp⟩ := ad
    by_cases hn : ys = []
    · subst hn
      obtain ⟨v', w', h1, h2, h3, h4, h5⟩ := run_append_own_at (P := P) w base t ty e i z E.size bytes he.under hi hz0 hz1 hz2 hz3 E.pos v xs.length (xs.flatMap enc) hR.1 ⟨b, off, sp⟩ 0 c [] (by simp) (fun j u h => by simp at h) (fun u h => by simp at h) h63 hbytes hbase
      exact ⟨v', w', h1, hR.all h2 (fun y hy => by simp at hy), h3, h5⟩
    · obtain ⟨b', off', hA, _⟩ := hS.2.2 hn
      simp only [Option.some.injEq, Addr.mk.injEq] at hA
      obtain ⟨rfl, rfl, rfl⟩ := hA
      obtain ⟨v', w', h1, h2, h3, h4, h5⟩ := run_append_own_at (P := P) w base t ty e i z E.size bytes he.under hi hz0 hz1 hz2 hz3 E.pos v xs.length (xs.flatMap enc) hR.1 ⟨b, off, none⟩ ys.length c (ys.flatMap enc) (flatMap_len enc E.size ys hlen) (hf.cells hS)
        (fun u hu => by obtain ⟨y, _, h⟩ := List.mem_flatMap.1 hu; exact hf.one y u h) h63 hbytes hbase
      exact ⟨v', w', h1, hR.all h2 (hf.sl hS), h3, h5⟩

theorem wpList_append_row {α : Type} {P : Program} {E : Enc α} {enc : α → List Value} (hf : Flat E enc) {t e : TypeId} {bytes : Nat} (he : Elem P E t e bytes) {ops : Array Oper} {rest : List Oper} {o : Oper} {a : Act} {Q : Exit → Act → World → Prop} {w : World} (hgd : o.guard = none) (s x : Operand)
    (ho : o.op = .call { callee := .builtin .append, args := #[s, x], argTypes := #[t, t] }) {base : Nat} {v : Value} {xs ys : List α} (hs : a.eval s = v) (hR : Row E enc e w base v xs)
    {S : Nat → Prop} {A : Option Addr} {c : Nat} (hx : a.eval x = .slice A ys.length c) (hS : Sl E w S A c ys) (h63 : xs.length + ys.length ≤ maxLen) (hbytes : (xs.length + ys.length) * bytes ≤ 140737488355328) (hbase : base ≤ w.heap.size)
    (h : ∀ v' w', Row E enc e w' base v' (xs ++ ys) → w.grownBy w' v.ownBlock → (v'.ownBlock = v.ownBlock ∨ v'.ownBlock = some w.heap.size) → wpList P ops Q rest (a.put o.dst v') w') :
    wpList P ops Q (o :: rest) a w := by
  refine wpList_plain hgd fun K hK => ?_
  obtain ⟨v', w', hr, h2, h3, h4⟩ := run_append_row hf he o.type hR hS h63 hbytes hbase
  unfold Oper.wp execOp
  simp only [ho, resolve, invoke, builtin, Sem.run_bind, Sem.run_pure, Result.andThen_ok, List.map_toArray, List.map_cons, List.map_nil, hs, hx, hr]
  exact hK _ _ (h v' w' h2 h3 h4)

theorem So.take {α : Type} {E : Enc α} {w : World} {S : Nat → Prop} {A : Option Addr} {c : Nat} {xs : List α} (h : So E w S A c xs) (k : Nat) : So E w S A c (xs.take k) :=
  ⟨by have := h.1; rw [List.length_take]; omega, h.2.1, fun hn => by
    obtain ⟨b, off, t, cur, T, hA, hb, hB, hT, hd, hc⟩ := h.2.2 (by rintro rfl; simp at hn)
    refine ⟨b, off, t, cur, T, hA, hb, hB, hT, hd, fun i x hx => hc i x ?_⟩
    rw [List.getElem?_take] at hx
    split at hx
    · exact hx
    · cases hx⟩

theorem Sl.take {α : Type} {E : Enc α} {w : World} {S : Nat → Prop} {A : Option Addr} {c : Nat} {xs : List α} (h : Sl E w S A c xs) (k : Nat) : Sl E w S A c (xs.take k) :=
  ⟨by have := h.1; rw [List.length_take]; omega, h.2.1, fun hn => by
    obtain ⟨b, off, hA, hb, hc⟩ := h.2.2 (by rintro rfl; simp at hn)
    refine ⟨b, off, hA, hb, fun i x hx => hc i x ?_⟩
    rw [List.getElem?_take] at hx
    split at hx
    · exact hx
    · cases hx⟩

/-- One number of an owned slice rewritten. -/
theorem So.setI {w : World} {S : Nat → Prop} {b off c : Nat} {xs : List Int} (h : So eInt w S (some ⟨b, off, none⟩) c xs) {k : Nat} (hk : k < xs.length) {y : Int} (hy : I64 y) : So eInt (w.setCell ⟨b, off + k, none⟩ (.int .i64 y)) S (some ⟨b, off, none⟩) c (xs.set k y) := by
  obtain ⟨b', off', t, cur, T, es, hA, hb, hB, hT, hO, hcells, hre⟩ := h.at hk
  simp only [Option.some.injEq, Addr.mk.injEq, and_true] at hA
  obtain ⟨rfl, rfl⟩ := hA
  refine hre _ [.int .i64 y] y ⟨rfl, hy⟩ ?_ (fun m hm hne _ => Below.heap_setCell _ _ _ _ hne)
  rw [show off + k * eInt.size = off + k from by show off + k * 1 = _; omega]
  exact hB.set _ _

/-- What an owned slice of numbers holds, and that it may be written. -/
theorem So.getI {w : World} {S : Nat → Prop} {A : Option Addr} {c : Nat} {xs : List Int} (h : So eInt w S A c xs) {k : Nat} (hk : k < xs.length) : ∃ b off, A = some ⟨b, off, none⟩ ∧ S b ∧ I64 xs[k] ∧ w.cell? ⟨b, off + k, none⟩ = some (.int .i64 xs[k]) ∧ w.frozen? ⟨b, off + k, none⟩ = false := by
  obtain ⟨b, off, t, cur, T, es, rfl, hb, hB, hT, hO, hcells, _⟩ := h.at hk
  obtain ⟨rfl, hi⟩ := hO
  refine ⟨b, off, rfl, hb, hi, ?_, hB.frozen _⟩
  have := hcells 0 _ rfl
  rw [show off + k * eInt.size + 0 = off + k from by show off + k * 1 + 0 = _; omega] at this
  rw [hB.cell]; exact this

def evp (L : List (Nat × Value)) : List (Nat × Operand) → Option (List (Nat × Value))
  | [] => some []
  | (i, x) :: xs => match ev L x, evp L xs with
    | some v, some vs => some ((i, v) :: vs)
    | _, _ => none

theorem evp_map {n : Nat} {L : List (Nat × Value)} {a : Act} (hE : Env n L a) : ∀ (xs : List (Nat × Operand)) (vs : List (Nat × Value)), evp L xs = some vs → (xs.map fun p => (p.1, a.eval p.2)) = vs
  | [], vs, h => by simp [evp] at h; subst h; rfl
  | (i, x) :: xs, vs, h => by
    simp only [evp] at h
    cases h1 : ev L x with
    | none => simp [h1] at h
    | some v =>
      cases h2 : evp L xs with
      | none => simp [h1, h2] at h
      | some us =>
        simp [h1, h2] at h
        subst h
        rw [List.map_cons, hE.ev h1, evp_map hE xs us h2]

def setP (cs : List Value) : List (Nat × Value) → List Value
  | [] => cs
  | p :: r => setP (cs.set p.1 p.2) r

theorem one_cells {v : Value} (h : v.oneCell' = true) : v.cells = #[v] := by cases v <;> first | rfl | (simp [Value.oneCell'] at h)

theorem fill_one {pl : Array (Nat × Nat)} {m : Nat} (hp : ∀ i, i < m → pl[i]? = some (i, 1)) : ∀ (vs : List (Nat × Value)) (cs : List Value), cs.length = m → (∀ p ∈ vs, p.1 < m ∧ p.2.oneCell' = true) → Instr.fill (fun i => pl[i]?) cs.toArray vs = some (setP cs vs).toArray
  | [], cs, _, _ => rfl
  | p :: r, cs, hl, h => by
    obtain ⟨i, v⟩ := p
    have hi := h (i, v) (by simp)
    have ih := fill_one hp r (cs.set i v) (by simpa using hl) (fun q hq => h q (by simp [hq]))
    have h2 : i + 1 ≤ cs.length := by have := hi.1; omega
    have h3 : ¬ (cs.toArray.size < i + 1) := by simp; omega
    simp only [Instr.fill, hp i hi.1, one_cells hi.2]
    simp [setP, ← ih, h3, h2]
    intro h4; omega

/-- What is known of a struct type whose fields take a cell each. -/
structure TB (P : Program) (t : TypeId) (zs : List Value) : Prop where
  tv : TV P t true zs
  under : ∃ fs pl, P.underlying t = some (.struct fs) ∧ (∀ w, (fs.mapM fun (f : Field) => (do pure (f.offset, ← sizeOf f.type) : Sem (Nat × Nat))).run P w = .ok pl w) ∧ ∀ i, i < zs.length → pl[i]? = some (i, 1)

theorem x_build {P : Program} {S : World → Prop} {L : List (Nat × Value)} {d : Option Tmp} {t : TypeId} {ps : List (Nat × Operand)} {vs : List (Nat × Value)} {zs : List Value} {ty : TypeId} {pos : String} {af : Array Edge} {g : Option (Nat × Bool)} (ht : TB P t zs) (he : evp L ps = some vs) (hv : ∀ p ∈ vs, p.1 < zs.length ∧ p.2.oneCell' = true) : XS P S L ⟨d, .build t ps.toArray, ty, pos, af, g⟩ (.agg (setP zs vs).toArray) := fun _ a w hE _ => by
  obtain ⟨fs, pl, h1, h2, h3⟩ := ht.under
  obtain ⟨i, z, e1, e2, e3, e4⟩ := ht.tv.info
  have hf := fill_one h3 vs zs rfl hv
  have hm := evp_map hE ps vs he
  have hz : (zeroValue t).run P w = .ok z w := by simp [zeroValue, typeInfo, e1, e2]
  simp only [execOp, Instr.build, List.map_toArray, hm, Sem.run_bind, hz, Result.andThen_ok, run_underlying h1, h2 w, e4]
  simp [hf]

theorem foldl_setAll (off : Nat) : ∀ (vs : List Value) (k : Nat) (cs : Array Value), (vs.zipIdx k).foldl (fun cs (p : Value × Nat) => cs.setIfInBounds (off + p.2) p.1) cs = setAll cs (off + k) vs
  | [], _, _ => rfl
  | v :: vs, k, cs => by
    rw [List.zipIdx_cons, List.foldl_cons, foldl_setAll off vs (k + 1)]
    rfl

theorem setAll_split (pre mid post vs : List Value) (h : mid.length = vs.length) : setAll (pre ++ mid ++ post).toArray pre.length vs = (pre ++ vs ++ post).toArray := by
  apply Array.ext_getElem?
  intro i
  rw [get_setAll _ _ _ _ (by simp; omega)]
  by_cases h1 : pre.length ≤ i ∧ i < pre.length + vs.length
  · rw [if_pos h1]
    simp only [List.getElem?_toArray]
    rw [List.append_assoc, List.getElem?_append_right h1.1, List.getElem?_append_left (by omega)]
  · rw [if_neg h1]
    simp only [List.getElem?_toArray, List.append_assoc]
    by_cases h2 : i < pre.length
    · rw [List.getElem?_append_left h2, List.getElem?_append_left h2]
    · rw [List.getElem?_append_right (by omega), List.getElem?_append_right (by omega), List.getElem?_append_right (by omega), List.getElem?_append_right (by omega), h]

def numb (j : Nat) : List Value → List (Nat × Value)
  | [] => []
  | v :: vs => (j, v) :: numb (j + 1) vs

theorem fill_all (sz : Nat) : ∀ (vs : List Value) (j : Nat) (pre post : List Value), pre.length = j * sz → post.length = vs.length * sz → (∀ v ∈ vs, v.cells.size = sz) → Instr.fill (fun i => some (i * sz, sz)) (pre ++ post).toArray (numb j vs) = some (pre ++ (vs.map fun v => v.cells.toList).flatten).toArray
  | [], j, pre, post, _, h2, _ => by
    have : post = [] := List.eq_nil_of_length_eq_zero (by simpa using h2)
    subst this; simp [numb, Instr.fill]
  | v :: vs, j, pre, post, h1, h2, h3 => by
    have hv := h3 v (by simp)
    rw [List.length_cons, Nat.succ_mul] at h2
    have hsp : post = post.take sz ++ post.drop sz := (List.take_append_drop sz post).symm
    have hl : (post.take sz).length = v.cells.toList.length := by rw [List.length_take]; simp [hv]; omega
    have hset := setAll_split pre (post.take sz) (post.drop sz) v.cells.toList hl
    have ih := fill_all sz vs (j + 1) (pre ++ v.cells.toList) (post.drop sz) (by simp [h1, hv, Nat.succ_mul]) (by rw [List.length_drop]; omega) (fun u hu => h3 u (by simp [hu]))
    have hfold : v.cells.zipIdx.foldl (fun cs (p : Value × Nat) => cs.setIfInBounds (j * sz + p.2) p.1) (pre ++ post).toArray = (pre ++ v.cells.toList ++ post.drop sz).toArray := by
      rw [← Array.foldl_toList, Array.toList_zipIdx, foldl_setAll, Nat.add_zero, ← h1, ← hset, List.append_assoc, ← hsp]
    have hle : ¬ ((pre ++ post).toArray.size < j * sz + sz) := by simp; omega
    have hc : (v.cells.size ≠ sz || decide (j * sz + v.cells.size > (pre ++ post).toArray.size)) = false := by
      rw [hv]; simp; omega
    simp only [numb, Instr.fill]
    rw [if_neg (by rw [hc]; simp)]
    rw [show (v.cells.zipIdx.foldl (fun cs x => match x with | (c, j_1) => cs.setIfInBounds (j * sz + j_1) c) (pre ++ post).toArray) = (pre ++ v.cells.toList ++ post.drop sz).toArray from hfold, ih]
    simp

/-- A slice literal, all of its elements given. -/
theorem run_lit {P : Program} {n m : Nat} {a : Act} {L : List (Nat × Value)} {w : World} {t e : TypeId} {sz by_ : Nat} {ps : List (Nat × Operand)} {vs : List Value} {cs : List Value} {d : Option Tmp} {ty : TypeId} {pos : String} {af : Array Edge} {g : Option (Nat × Bool)} (hT : TSl P t e sz by_) (hE : Env n L a) (he : evp L ps = some (numb 0 vs)) (hm : vs.length = m) (hv : ∀ v ∈ vs, v.cells.size = sz) (hcs : (vs.map fun v => v.cells.toList).flatten = cs) (hb : m * sz ≤ 16777216) :
    (execOp a.eval ⟨d, .buildSlice t m ps.toArray, ty, pos, af, g⟩).run P w = .ok (.value (.slice (some ⟨w.heap.size, 0, none⟩) m m)) (w.alloc (.cells cs.toArray e)) := by
  obtain ⟨i, z, e1, e2, e3, e4, e5⟩ := hT.info
  subst hm hcs
  have hE' := evp_map hE ps _ he
  have hb' : ¬ (vs.length * i.size > 2 ^ 24) := by rw [e3]; omega
  have key : ∀ zero : Array Value, Instr.fill (fun i_1 => some (i_1 * i.size, i.size)) ((Array.range (vs.length * i.size)).map (zero[· % zero.size]!)) (numb 0 vs) = some (vs.map fun v => v.cells.toList).flatten.toArray := by
    intro zero
    have := fill_all sz vs 0 [] ((Array.range (vs.length * i.size)).map (zero[· % zero.size]!)).toList (by simp) (by simp [e3]) hv
    simp only [List.nil_append, Array.toArray_toList] at this
    rw [e3] at this ⊢; exact this
  simp only [execOp, Instr.buildSlice, List.map_toArray, hE', Sem.run_bind, run_underlying hT.under, Result.andThen_ok, sizeOf, typeInfo, run_program, e1, Sem.run_pure, hb', if_false]
  by_cases h0 : vs.length * i.size = 0
  · simp [h0, newRow] at key ⊢
    have := key #[]
    simp at this
    simp [this]
  · simp [h0, zeroValue, typeInfo, e1, e2, newRow, key]

theorem lkI {t : Nat} {L : List (Nat × Value)} {q : IntKind} {x y : Int} (h : lk t L = some (.int q x)) (e : x = y) : lk t L = some (.int q y) := e ▸ h

theorem Held.to {M : Nat → Prop} {w0 : World} {rs rs' : List Res} {w : World} (h : Held M w0 rs w) (e : rs = rs') : Held M w0 rs' w := e ▸ h

theorem Held.flatO {M : Nat → Prop} {w0 : World} {rs : List Res} {w : World} (h : Held M w0 rs w) {α : Type} {E : Enc α} {cs : List Value} {x : α} (ho : ∀ W, E.O W Nob cs x) : Held M w0 (rO E Nob cs x :: rs) w := h.new (Below.refl _ _) (rO E Nob cs x) (ho w) fun _ h => h.elim

theorem oPrN {α β : Type} {E : Enc α} {F : Enc β} {w : World} {c1 c2 : List Value} {x : α} {y : β} (h1 : E.O w Nob c1 x) (h2 : F.O w Nob c2 y) : (ePr E F).O w Nob (c1 ++ c2) (x, y) := ⟨c1, c2, Nob, Nob, rfl, fun b hb => hb.elim, fun b hb => hb, h1, h2⟩

/-- A literal slice reads as the list of what its elements read as. -/
theorem Held.slLit {M : Nat → Prop} {w0 w : World} {rs : List Res} {α : Type} {E : Enc α} {g : Nat} {t : TypeId} {css : List (List Value)} {xs : List α} (h : Held M w0 rs w) {i : Nat} (hi : rs[i]? = some (rBlk g t css.flatten)) (hl : css.length = xs.length) (hm : xs.length ≤ maxLen) (hR : ∀ (j : Nat) (x : α), xs[j]? = some x → ∃ es, css[j]? = some es ∧ E.R w (Old w) es x) : Sl E w (Old w) (some ⟨g, 0, none⟩) xs.length xs := by
  have hB : Blk w g t css.flatten.toArray := h.get hi
  refine ⟨Nat.le_refl _, hm, fun _ => ⟨g, 0, rfl, Blk.lt hB, fun j x hx => ?_⟩⟩
  obtain ⟨es, h1, h2⟩ := hR j x hx
  refine ⟨es, h2, fun q v hv => ?_⟩
  have hsz : ∀ es ∈ css, es.length = E.size := fun es hes => by
    obtain ⟨m, hm', rfl⟩ := List.getElem_of_mem hes
    obtain ⟨es', h3, h4⟩ := hR m xs[m] (List.getElem?_eq_getElem (by omega))
    rw [List.getElem?_eq_getElem hm'] at h3
    simp at h3; rw [h3]; exact E.len h4
  have hq : q < E.size := by
    have := (List.getElem?_eq_some_iff.1 hv).1
    rw [hsz es (List.mem_of_getElem? h1)] at this; exact this
  have := flatten_at E.size css hsz j es h1 q hq
  rw [Nat.zero_add, hB.cell, List.getElem?_toArray, this]; exact hv

theorem tv_parts {P : Program} {t : TypeId} {z : Value} {n : Nat} (h : (P.info? t).map (fun i => (i.zero, i.size)) = some (some z, n)) : ∃ i, P.info? t = some i ∧ i.zero = some z ∧ i.size = n := by
  cases hi : P.info? t with
  | none => rw [hi] at h; cases h
  | some i =>
    rw [hi] at h
    simp only [Option.map_some, Option.some.injEq, Prod.mk.injEq] at h
    exact ⟨i, rfl, h.1, h.2⟩

theorem ts_parts {P : Program} {t : TypeId} {z : Value} {n b : Nat} (h : (P.info? t).map (fun i => (i.zero, i.size, i.bytes)) = some (some z, n, b)) : ∃ i, P.info? t = some i ∧ i.zero = some z ∧ i.size = n ∧ i.bytes = b := by
  cases hi : P.info? t with
  | none => rw [hi] at h; cases h
  | some i =>
    rw [hi] at h
    simp only [Option.map_some, Option.some.injEq, Prod.mk.injEq] at h
    exact ⟨i, rfl, h.1, h.2.1, h.2.2⟩

theorem Env.castI {n t : Nat} {L : List (Nat × Value)} {a : Act} {q : IntKind} {x y : Int} (h : Env n L a) (hl : lk t L = some (.int q x)) (e : x = y) : Env n ((t, .int q y) :: L) a :=
  h.sub' fun s v hv => by
    simp only [lk] at hv
    by_cases hs : Nat.beq s t = true
    · rw [hs] at hv
      have hs' := Nat.eq_of_beq_eq_true hs
      subst hs' e
      simp at hv
      rw [hl, hv]
    · have hs' : Nat.beq s t = false := Bool.eq_false_iff.2 hs
      rw [hs'] at hv; exact hv

/-- A captured variable's cell, as a closure sees it. -/
theorem Held.capB {M : Nat → Prop} {w0 : World} {rs : List Res} {w W : World} {g : Nat} {t : TypeId} {cs : List Value} (h : Held M w0 rs w) (i : Nat) (hi : rs[i]? = some (rBlk g t cs)) (hb : Below w.heap.size w W) : ∀ j v, cs[j]? = some v → W.cell? ⟨g, 0 + j, none⟩ = some v := fun j v hv => by
  have hlt := (h.rng _ (List.mem_of_getElem? hi) g rfl).2
  rw [hb.cell (p := ⟨g, 0 + j, none⟩) hlt]
  exact c_blkN i hi w h j v hv

theorem Env.castS {n t m m' c : Nat} {A : Option Addr} {L : List (Nat × Value)} {a : Act} (h : Env n L a) (hl : lk t L = some (.slice A m c)) (e : m = m') : Env n ((t, .slice A m' c) :: L) a :=
  h.sub' fun s v hv => by
    simp only [lk] at hv
    by_cases hs : Nat.beq s t = true
    · rw [hs] at hv
      have hs' := Nat.eq_of_beq_eq_true hs
      subst hs' e
      simp at hv
      rw [hl, hv]
    · have hs' : Nat.beq s t = false := Bool.eq_false_iff.2 hs
      rw [hs'] at hv; exact hv

/-- What was there, outside M. -/
def Out (M : Nat → Prop) (w : World) (b : Nat) : Prop := b < w.heap.size ∧ ¬ M b

/-- The blocks of some parts. -/
def Foot (xs : List Res) (b : Nat) : Prop := ∃ r ∈ xs, r.S b

theorem Held.startM {w : World} {α : Type} {E : Enc α} {S : Nat → Prop} {cs : List Value} {x : α} (ho : E.O w S cs x) (hS : ∀ b, S b → b < w.heap.size) : Held S w [rO E S cs x] w :=
  ⟨Chg.refl _ _, (fun r hr => by simp at hr; subst hr; exact ho), (fun r hr b hb => by simp at hr; subst hr; exact ⟨.inl hb, hS b hb⟩), by simp⟩

theorem Held.focus {M0 : Nat → Prop} {w0 : World} {xs rs : List Res} {w : World} (h : Held M0 w0 (xs ++ rs) w) : Held (Foot xs) w xs w :=
  ⟨Chg.refl _ _, fun r hr => h.ok r (by simp [hr]), fun r hr b hb => ⟨.inl ⟨r, hr, hb⟩, (h.rng r (by simp [hr]) b hb).2⟩, (List.pairwise_append.1 h.sep).1⟩

theorem Held.back {M0 : Nat → Prop} {w0 : World} {xs ys rs : List Res} {w w' : World} (h : Held M0 w0 (xs ++ rs) w) (h' : Held (Foot xs) w ys w') : Held M0 w0 (ys ++ rs) w' where
  chg := by
    refine ⟨h'.chg.os.trans h.chg.os, h'.chg.tape.trans h.chg.tape, h'.chg.output.trans h.chg.output, Nat.le_trans h.chg.size h'.chg.size, fun k hk hM => ?_⟩
    refine (h'.chg.block k (Nat.lt_of_lt_of_le hk h.chg.size) ?_).trans (h.chg.block k hk hM)
    rintro ⟨r, hr, hb⟩
    rcases (h.rng r (by simp [hr]) k hb).1 with q | q
    · exact hM q
    · omega
  ok := by
    intro r hr
    rcases List.mem_append.1 hr with hr | hr
    · exact h'.ok r hr
    · refine r.loc w w' (fun b hb => h'.chg.block b (h.rng r (by simp [hr]) b hb).2 ?_) (h.ok r (by simp [hr]))
      rintro ⟨s, hs, hb'⟩
      exact (List.pairwise_append.1 h.sep).2.2 s hs r hr b hb' hb
  rng := by
    intro r hr b hb
    rcases List.mem_append.1 hr with hr | hr
    · obtain ⟨h1, h2⟩ := h'.rng r hr b hb
      refine ⟨?_, h2⟩
      rcases h1 with ⟨s, hs, hb'⟩ | h1
      · exact (h.rng s (by simp [hs]) b hb').1
      · exact .inr (Nat.le_trans h.size h1)
    · have h1 := h.rng r (by simp [hr]) b hb
      exact ⟨h1.1, Nat.lt_of_lt_of_le h1.2 h'.chg.size⟩
  sep := by
    refine List.pairwise_append.2 ⟨h'.sep, (List.pairwise_append.1 h.sep).2.1, fun r hr s hs b hb hb' => ?_⟩
    rcases (h'.rng r hr b hb).1 with ⟨q, hq, hb2⟩ | h1
    · exact (List.pairwise_append.1 h.sep).2.2 q hq s hs b hb2 hb'
    · have := (h.rng s (by simp [hs]) b hb').2; omega

theorem Held.oldM {M : Nat → Prop} {w0 : World} {rs : List Res} {w : World} {α : Type} {E : Enc α} {A : Option Addr} {c : Nat} {xs : List α} (h : Held M w0 rs w) (hs : Sl E w0 (Out M w0) A c xs) : Sl E w (Old w) A c xs :=
  (hs.keep (fun p hp => World.cell?_of_block (w := w0) (h.chg.block p.block hp.1 hp.2))).more fun b hb => Nat.lt_of_lt_of_le hb.1 h.chg.size

theorem Held.oldRM {M : Nat → Prop} {w0 : World} {rs : List Res} {w : World} {α : Type} {E : Enc α} {cs : List Value} {x : α} (h : Held M w0 rs w) (hs : E.R w0 (Out M w0) cs x) : E.R w (Old w) cs x :=
  E.more (E.keep hs (fun p hp => World.cell?_of_block (w := w0) (h.chg.block p.block hp.1 hp.2))) fun b hb => Nat.lt_of_lt_of_le hb.1 h.chg.size

/-- A borrowed slice, as a callee that rewrites xs sees it. -/
theorem Held.lend {w0 : World} {xs rs : List Res} {w : World} {α : Type} {E : Enc α} {A : Option Addr} {c : Nat} {zs : List α} (h : Held Nob w0 (xs ++ rs) w) (hs : Sl E w0 (Old w0) A c zs) : Sl E w (Out (Foot xs) w) A c zs :=
  (hs.keep (fun p hp => h.cell0 hp fun h => h)).more fun b hb => ⟨Nat.lt_of_lt_of_le hb h.size, by
    rintro ⟨r, hr, hb'⟩
    rcases (h.rng r (by simp [hr]) b hb').1 with q | q
    · exact q.elim
    · have : b < w0.heap.size := hb
      omega⟩

theorem Held.lendM {M : Nat → Prop} {w0 : World} {xs rs : List Res} {w : World} {α : Type} {E : Enc α} {A : Option Addr} {c : Nat} {zs : List α} (h : Held M w0 (xs ++ rs) w) (hs : Sl E w0 (Out M w0) A c zs) : Sl E w (Out (Foot xs) w) A c zs :=
  (hs.keep (fun p hp => h.cell0 hp.1 hp.2)).more fun b hb => ⟨Nat.lt_of_lt_of_le hb.1 h.size, by
    rintro ⟨r, hr, hb'⟩
    rcases (h.rng r (by simp [hr]) b hb').1 with q | q
    · exact hb.2 q
    · have : b < w0.heap.size := hb.1
      omega⟩

/-- A part that is owned, as a callee that rewrites other parts sees it. -/
theorem Held.lendR {M : Nat → Prop} {w0 : World} {xs rs : List Res} {w : World} {α : Type} {E : Enc α} {S : Nat → Prop} {cs : List Value} {x : α} (h : Held M w0 (xs ++ rs) w) {i : Nat} (hi : rs[i]? = some (rO E S cs x)) : E.R w (Out (Foot xs) w) cs x :=
  E.more (E.read (h.ok _ (List.mem_append_right _ (List.mem_of_getElem? hi)))) fun b hb => ⟨(h.rng _ (List.mem_append_right _ (List.mem_of_getElem? hi)) b hb).2, by
    rintro ⟨r, hr, hb'⟩
    exact (List.pairwise_append.1 h.sep).2.2 r hr _ (List.mem_of_getElem? hi) b hb' hb⟩

theorem Held.lendO {w0 : World} {xs rs : List Res} {w : World} {α : Type} {E : Enc α} {cs : List Value} {x : α} (h : Held Nob w0 (xs ++ rs) w) (hs : E.R w0 (Old w0) cs x) : E.R w (Out (Foot xs) w) cs x :=
  E.more (E.keep hs (fun p hp => h.cell0 hp fun h => h)) fun b hb => ⟨Nat.lt_of_lt_of_le hb h.size, by
    rintro ⟨r, hr, hb'⟩
    rcases (h.rng r (by simp [hr]) b hb').1 with q | q
    · exact q.elim
    · have : b < w0.heap.size := hb
      omega⟩

theorem Held.lendOM {M : Nat → Prop} {w0 : World} {xs rs : List Res} {w : World} {α : Type} {E : Enc α} {cs : List Value} {x : α} (h : Held M w0 (xs ++ rs) w) (hs : E.R w0 (Out M w0) cs x) : E.R w (Out (Foot xs) w) cs x :=
  E.more (E.keep hs (fun p hp => h.cell0 hp.1 hp.2)) fun b hb => ⟨Nat.lt_of_lt_of_le hb.1 h.size, by
    rintro ⟨r, hr, hb'⟩
    rcases (h.rng r (by simp [hr]) b hb').1 with q | q
    · exact hb.2 q
    · have : b < w0.heap.size := hb.1
      omega⟩

theorem Held.nfB {M : Nat → Prop} {w0 : World} {xs rs : List Res} {w : World} (h : Held M w0 (xs ++ rs) w) {i g : Nat} {t : TypeId} {cs : List Value} (hi : rs[i]? = some (rBlk g t cs)) : ¬ Foot xs g := by
  rintro ⟨r, hr, hb'⟩
  exact (List.pairwise_append.1 h.sep).2.2 r hr _ (List.mem_of_getElem? hi) g hb' rfl

theorem block_of_cell {w : World} {b o : Nat} {v : Value} (h : w.cell? ⟨b, o, none⟩ = some v) : b < w.heap.size := by
  rcases Nat.lt_or_ge b w.heap.size with h1 | h1
  · exact h1
  · exfalso
    unfold World.cell? at h
    simp [Array.getElem?_eq_none h1] at h

theorem Held.nfO {w0 : World} {xs rs : List Res} {w : World} (h : Held Nob w0 (xs ++ rs) w) {b o : Nat} {v : Value} (hc : w0.cell? ⟨b, o, none⟩ = some v) : ¬ Foot xs b := by
  rintro ⟨r, hr, hb'⟩
  rcases (h.rng r (by simp [hr]) b hb').1 with q | q
  · exact q.elim
  · have := block_of_cell hc
    omega

theorem Held.nfOM {M : Nat → Prop} {w0 : World} {xs rs : List Res} {w : World} (h : Held M w0 (xs ++ rs) w) {b o : Nat} {v : Value} (hM : ¬ M b) (hc : w0.cell? ⟨b, o, none⟩ = some v) : ¬ Foot xs b := by
  rintro ⟨r, hr, hb'⟩
  rcases (h.rng r (by simp [hr]) b hb').1 with q | q
  · exact hM q
  · have := block_of_cell hc
    omega

/-- The flat part in front given up. -/
theorem Held.unF {M : Nat → Prop} {w0 : World} {rs : List Res} {w : World} {α β : Type} {E : Enc α} {F : Enc β} {S : Nat → Prop} {v : Value} {cs : List Value} {x : α × β} (h1 : E.size = 1) (h : Held M w0 (rO (ePr E F) S (v :: cs) x :: rs) w) : Held M w0 (rO F S cs x.2 :: rs) w := by
  refine h.turn _ ?_ fun _ hb => hb
  rintro ⟨c1, c2, S1, S2, he, k1, k2, o1, o2⟩
  have hl := E.len (E.read o1)
  rw [h1] at hl
  obtain ⟨u, rfl⟩ := List.length_eq_one_iff.1 hl
  simp at he
  obtain ⟨_, rfl⟩ := he
  exact F.omore o2 k2

theorem Held.unP {M : Nat → Prop} {w0 : World} {rs : List Res} {w : World} {α β : Type} {E : Enc α} {F : Enc β} {S : Nat → Prop} {v : Value} {cs : List Value} {x : α × β} (h1 : E.size = 1) (h : Held M w0 (rO (ePr E F) S (v :: cs) x :: rs) w) : ∃ S1 S2, Held M w0 (rO E S1 [v] x.1 :: rO F S2 cs x.2 :: rs) w := by
  obtain ⟨c1, c2, S1, S2, he, k1, k2, o1, o2⟩ := h.ok _ (List.mem_cons_self)
  have hl := E.len (E.read o1)
  rw [h1] at hl
  obtain ⟨u, rfl⟩ := List.length_eq_one_iff.1 hl
  simp at he
  obtain ⟨rfl, rfl⟩ := he
  have hs := List.pairwise_cons.1 h.sep
  refine ⟨S1, S2, h.chg, ?_, ?_, ?_⟩
  · intro r hr
    simp only [List.mem_cons] at hr
    rcases hr with rfl | rfl | hr
    · exact o1
    · exact o2
    · exact h.ok r (by simp [hr])
  · intro r hr b hb
    simp only [List.mem_cons] at hr
    rcases hr with rfl | rfl | hr
    · exact h.rng _ (List.mem_cons_self) b (k1 b hb).1
    · exact h.rng _ (List.mem_cons_self) b (k2 b hb)
    · exact h.rng r (by simp [hr]) b hb
  · refine List.pairwise_cons.2 ⟨fun r hr b hb hb' => ?_, List.pairwise_cons.2 ⟨fun r hr b hb hb' => hs.1 r hr b (k2 b hb) hb', hs.2⟩⟩
    rcases List.mem_cons.1 hr with rfl | hr
    · exact (k1 b hb).2 hb'
    · exact hs.1 r hr b (k1 b hb).1 hb'

/-- An owned slice with one element laid open: its cells es; what the element owns (T) is held apart. -/
def Foc {α : Type} (E : Enc α) (w : World) (S : Nat → Prop) (b off c : Nat) (xs : List α) (k : Nat) (es : List Value) : Prop :=
  k < xs.length ∧ xs.length ≤ c ∧ c ≤ maxLen ∧ S b ∧ es.length = E.size ∧ ∃ (t : TypeId) (cur : Array Value) (T : Nat → Nat → Prop), Blk w b t cur ∧ (∀ i m, T i m → S m ∧ m ≠ b) ∧ (∀ i j m, T i m → T j m → i = j) ∧
    (∀ j v, es[j]? = some v → cur[off + k * E.size + j]? = some v) ∧ ∀ (i : Nat) (x : α), i ≠ k → xs[i]? = some x → ∃ us, E.O w (T i) us x ∧ ∀ j v, us[j]? = some v → cur[off + i * E.size + j]? = some v

theorem Foc.keep {α : Type} {E : Enc α} {w w' : World} {S : Nat → Prop} {b off c : Nat} {xs : List α} {k : Nat} {es : List Value} (h : Foc E w S b off c xs k es) (hk : ∀ b, S b → w'.heap[b]? = w.heap[b]?) : Foc E w' S b off c xs k es := by
  obtain ⟨h1, h2, h3, h4, h5, t, cur, T, hB, hT, hd, hc, hr⟩ := h
  refine ⟨h1, h2, h3, h4, h5, t, cur, T, (hk b h4).trans hB, hT, hd, hc, fun i x hi hx => ?_⟩
  obtain ⟨us, q1, q2⟩ := hr i x hi hx
  exact ⟨us, E.okeep q1 fun m hm => hk m (hT i m hm).1, q2⟩

def rFoc {α : Type} (E : Enc α) (S : Nat → Prop) (b off c : Nat) (xs : List α) (k : Nat) (es : List Value) : Res := ⟨S, fun w => Foc E w S b off c xs k es, fun _ _ h hf => hf.keep h⟩

theorem Held.open {M : Nat → Prop} {w0 : World} {rs : List Res} {w : World} {α : Type} {E : Enc α} {S : Nat → Prop} {A : Option Addr} {c : Nat} {xs : List α} (h : Held M w0 (rSo E S A c xs :: rs) w) {k : Nat} (hk : k < xs.length) :
    ∃ b off es T, A = some ⟨b, off, none⟩ ∧ E.R w (Old w) es xs[k] ∧ (∀ m, T m → S m ∧ m ≠ b) ∧ Held M w0 (rFoc E (fun m => S m ∧ ¬ T m) b off c xs k es :: rO E T es xs[k] :: rs) w := by
  have hso := so_of_o (h.ok _ (List.mem_cons_self))
  have hrng := h.rng _ (List.mem_cons_self)
  obtain ⟨b, off, t, cur, T, hA, hb, hB, hT, hd, hc⟩ := hso.2.2 (by intro e; subst e; simp at hk)
  obtain ⟨es, h1, h2⟩ := hc k xs[k] (List.getElem?_eq_getElem hk)
  have hs := List.pairwise_cons.1 h.sep
  refine ⟨b, off, es, T k, hA, E.more (E.read h1) (fun m hm => (hrng m (hT k m hm).1).2), fun m hm => hT k m hm, h.chg, ?_, ?_, ?_⟩
  · intro r hr
    simp only [List.mem_cons] at hr
    rcases hr with rfl | rfl | hr
    · refine ⟨hk, hso.1, hso.2.1, ⟨hb, fun hm => (hT k b hm).2 rfl⟩, E.len (E.read h1), t, cur, fun i m => i ≠ k ∧ T i m, hB, fun i m hm => ⟨⟨(hT i m hm.2).1, fun hm' => hm.1 (hd i k m hm.2 hm')⟩, (hT i m hm.2).2⟩, fun i j m h3 h4 => hd i j m h3.2 h4.2, h2, fun i x hi hx => ?_⟩
      obtain ⟨us, q1, q2⟩ := hc i x hx
      exact ⟨us, E.omore q1 fun m hm => ⟨hi, hm⟩, q2⟩
    · exact h1
    · exact h.ok r (by simp [hr])
  · intro r hr m hm
    simp only [List.mem_cons] at hr
    rcases hr with rfl | rfl | hr
    · exact hrng m hm.1
    · exact hrng m (hT k m hm).1
    · exact h.rng r (by simp [hr]) m hm
  · refine List.pairwise_cons.2 ⟨fun r hr m hm hm' => ?_, List.pairwise_cons.2 ⟨fun r hr m hm hm' => hs.1 r hr m (hT k m hm).1 hm', hs.2⟩⟩
    rcases List.mem_cons.1 hr with rfl | hr
    · exact hm.2 hm'
    · exact hs.1 r hr m hm.1 hm'

theorem Held.shut {M : Nat → Prop} {w0 : World} {rs : List Res} {w : World} {α : Type} {E : Enc α} {S T : Nat → Prop} {b off c k : Nat} {xs : List α} {es : List Value} {y : α} (h : Held M w0 (rFoc E S b off c xs k es :: rO E T es y :: rs) w) : Held M w0 (rSo E (fun m => S m ∨ T m) (some ⟨b, off, none⟩) c (xs.set k y) :: rs) w := by
  refine h.join _ (fun hf ho hd => ?_) fun _ hb => hb
  obtain ⟨h1, h2, h3, h4, h5, t, cur, T', hB, hT, hd', hc, hr⟩ := hf
  refine oSl ⟨by rw [List.length_set]; exact h2, h3, fun _ => ⟨b, off, t, cur, fun i m => (i = k ∧ T m) ∨ (i ≠ k ∧ T' i m), rfl, .inl h4, hB, ?_, ?_, fun i x hx => ?_⟩⟩
  · rintro i m (⟨_, hm⟩ | ⟨_, hm⟩)
    · exact ⟨.inr hm, fun e => hd b h4 (e ▸ hm)⟩
    · exact ⟨.inl (hT i m hm).1, (hT i m hm).2⟩
  · rintro i j m (⟨hi, hm⟩ | ⟨hi, hm⟩) (⟨hj, hm'⟩ | ⟨hj, hm'⟩)
    · rw [hi, hj]
    · exact absurd hm (hd m (hT j m hm').1)
    · exact absurd hm' (hd m (hT i m hm).1)
    · exact hd' i j m hm hm'
  · by_cases e : i = k
    · subst e
      rw [List.getElem?_set_self h1] at hx
      simp at hx; subst hx
      exact ⟨es, E.omore ho fun m hm => .inl ⟨rfl, hm⟩, hc⟩
    · rw [List.getElem?_set_ne (fun h => e h.symm)] at hx
      obtain ⟨us, q1, q2⟩ := hr i x e hx
      exact ⟨us, E.omore q1 fun m hm => .inr ⟨e, hm⟩, q2⟩

theorem Held.relen {M : Nat → Prop} {w0 : World} {rs : List Res} {w : World} {α : Type} {E : Enc α} {S : Nat → Prop} {A : Option Addr} {c n : Nat} {xs : List α} (h : Held M w0 (rSo E S A c xs :: rs) w) (hn : xs.length = n) : Held M w0 (rO (eSl E) S [.slice A n c] xs :: rs) w := hn ▸ h

theorem Held.lt {M : Nat → Prop} {w0 : World} {rs : List Res} {w : World} (h : Held M w0 rs w) {i : Nat} {r : Res} (hi : rs[i]? = some r) : ∀ b, r.S b → b < w.heap.size := fun b hb => (h.rng r (List.mem_of_getElem? hi) b hb).2

theorem x_bneq {P : Program} {S : World → Prop} {L : List (Nat × Value)} {d : Option Tmp} {t t' : TypeId} {x y : Operand} {m k : Bool} {ty : TypeId} {pos : String} {af : Array Edge} {g : Option (Nat × Bool)} (ht : P.underlying t = some .bool) (hx : ev L x = some (.bool m)) (hy : ev L y = some (.bool k)) : XS P S L ⟨d, .binOp .neq t x y t', ty, pos, af, g⟩ (.bool (!(m == k))) := fun _ _ w hE _ => by
  have h := run_equal_bool (P := P) w t m k ht
  simp only [execOp, hE.ev hx, hE.ev hy, eqGuard, binOp, Sem.run_bind]
  simp [h]

/-- What a callee made, beside what is held. -/
theorem Held.app {M : Nat → Prop} {w0 : World} {rs qs : List Res} {w w' : World} (h : Held M w0 rs w) (h' : Held Nob w qs w') : Held M w0 (qs ++ rs) w' where
  chg := (h.on h'.below).chg
  ok := by
    intro r hr
    rcases List.mem_append.1 hr with hr | hr
    · exact h'.ok r hr
    · exact (h.on h'.below).ok r hr
  rng := by
    intro r hr b hb
    rcases List.mem_append.1 hr with hr | hr
    · have h1 := h'.rng r hr b hb
      exact ⟨.inr (Nat.le_trans h.size (h1.1.resolve_left fun q => q.elim)), h1.2⟩
    · exact (h.on h'.below).rng r hr b hb
  sep := by
    refine List.pairwise_append.2 ⟨h'.sep, h.sep, fun r hr s hs b hb hb' => ?_⟩
    have h1 := (h'.rng r hr b hb).1.resolve_left fun q => q.elim
    have h2 := (h.rng s hs b hb').2
    omega

/-- Held only if p holds. -/
def rIf (p : Prop) (r : Res) : Res := ⟨r.S, fun w => p → r.φ w, fun w w' h hp hq => r.loc w w' h (hp hq)⟩

theorem Held.toIf {M : Nat → Prop} {w0 : World} {rs : List Res} {r : Res} {w : World} (h : Held M w0 (r :: rs) w) (p : Prop) : Held M w0 (rIf p r :: rs) w :=
  h.turn (rIf p r) (fun hr _ => hr) fun _ h => h

theorem Held.ofIf {M : Nat → Prop} {w0 : World} {rs : List Res} {r : Res} {w : World} {p : Prop} (h : Held M w0 (rIf p r :: rs) w) (hp : p) : Held M w0 (r :: rs) w :=
  h.turn r (fun hr => hr hp) fun _ h => h

theorem Held.noIf {M : Nat → Prop} {w0 : World} {rs : List Res} {w : World} {p : Prop} (h : Held M w0 rs w) {α : Type} {E : Enc α} {A : Option Addr} {c : Nat} {xs : List α} (r : Res) (hp : ¬ p) (hr : r = rSo E Nob A c xs := by rfl) : Held M w0 (rIf p r :: rs) w := by
  subst hr
  exact h.new (Below.refl _ _) (rIf p (rSo E Nob A c xs)) (fun hq => absurd hq hp) fun _ h => h.elim

abbrev bs (l : List UInt8) : ByteArray := ⟨l.toArray⟩

theorem bs_size (l : List UInt8) : (bs l).size = l.length := by simp [bs, ByteArray.size]

theorem bs_toList (l : List UInt8) : (bs l).toList = l := by rw [Go.Lib.toList_data]

theorem bs_app (a b : List UInt8) : bs a ++ bs b = bs (a ++ b) := by
  rw [ByteArray.mk_append_mk]

theorem bs_eta (s : ByteArray) : bs s.data.toList = s := by cases s; simp

/-- A text. -/
def eTxt : Enc (List UInt8) where
  size := 1
  pos := Nat.zero_lt_one
  R := fun _ _ cs x => cs = [.string (bs x)] ∧ x.length ≤ 9223372036854775807
  len := by rintro _ _ _ _ ⟨rfl, _⟩; rfl
  keep := fun h _ => h
  more := fun h _ => h
  O := fun _ _ cs x => cs = [.string (bs x)] ∧ x.length ≤ 9223372036854775807
  read := fun h => h
  okeep := fun h _ => h
  omore := fun h _ => h

theorem oS {w : World} {S : Nat → Prop} {x : List UInt8} (h : x.length ≤ 9223372036854775807) : eTxt.O w S [.string (bs x)] x := ⟨rfl, h⟩

theorem x_sadd {P : Program} {S : World → Prop} {L : List (Nat × Value)} {d : Option Tmp} {t t' : TypeId} {x y : Operand} {m k : List UInt8} {ty : TypeId} {pos : String} {af : Array Edge} {g : Option (Nat × Bool)} (hx : ev L x = some (.string (bs m))) (hy : ev L y = some (.string (bs k))) (h : m.length + k.length ≤ 9223372036854775807) : XS P S L ⟨d, .binOp .add t x y t', ty, pos, af, g⟩ (.string (bs (m ++ k))) := fun _ _ _ hE _ => by
  have e : ¬ (((bs m).size + (bs k).size : Nat) : Int) > IntKind.i64.max := by
    rw [bs_size, bs_size]; show ¬ _ > (9223372036854775807 : Int); omega
  simp only [execOp, hE.ev hx, hE.ev hy, eqGuard, binOp, Op.stringOp, if_neg e, bs_app]; rfl

theorem beq_dec (m k : List UInt8) : (m == k) = decide (m = k) := by
  by_cases h : m = k <;> simp [h]

theorem x_seqlB {P : Program} {S : World → Prop} {L : List (Nat × Value)} {d : Option Tmp} {t t' : TypeId} {x y : Operand} {m k : List UInt8} {ty : TypeId} {pos : String} {af : Array Edge} {g : Option (Nat × Bool)} (hx : ev L x = some (.string (bs m))) (hy : ev L y = some (.string (bs k))) : XS P S L ⟨d, .binOp .eql t x y t', ty, pos, af, g⟩ (.bool (decide (m = k))) := by
  have := x_seql (P := P) (S := S) (d := d) (t := t) (t' := t') (ty := ty) (pos := pos) (af := af) (g := g) hx hy
  rwa [bs_toList, bs_toList, beq_dec] at this

theorem x_sneqB {P : Program} {S : World → Prop} {L : List (Nat × Value)} {d : Option Tmp} {t t' : TypeId} {x y : Operand} {m k : List UInt8} {ty : TypeId} {pos : String} {af : Array Edge} {g : Option (Nat × Bool)} (hx : ev L x = some (.string (bs m))) (hy : ev L y = some (.string (bs k))) : XS P S L ⟨d, .binOp .neq t x y t', ty, pos, af, g⟩ (.bool (!decide (m = k))) := by
  have := x_sneq (P := P) (S := S) (d := d) (t := t) (t' := t') (ty := ty) (pos := pos) (af := af) (g := g) hx hy
  rwa [bs_toList, bs_toList, beq_dec] at this

theorem x_lenB {P : Program} {S : World → Prop} {L : List (Nat × Value)} {d : Option Tmp} {x : Operand} {t : TypeId} {s : List UInt8} {ty : TypeId} {pos : String} {af : Array Edge} {g : Option (Nat × Bool)} (ht : P.underlying t = some .string) (hx : ev L x = some (.string (bs s))) : XS P S L ⟨d, .call { callee := .builtin .len, args := #[x], argTypes := #[t] }, ty, pos, af, g⟩ (.int .i64 (s.length : Int)) := by
  have := x_lenS (P := P) (S := S) (d := d) (ty := ty) (pos := pos) (af := af) (g := g) ht hx
  rwa [bs_size] at this

theorem x_idxB {P : Program} {S : World → Prop} {L : List (Nat × Value)} {d : Option Tmp} {t : TypeId} {x y : Operand} {l : List UInt8} {q : IntKind} {m : Int} {k : Nat} {b : UInt8} {ty : TypeId} {pos : String} {af : Array Edge} {g : Option (Nat × Bool)} (ht : P.underlying t = some .string) (hx : ev L x = some (.string (bs l))) (hy : ev L y = some (.int q m)) (hm : m = (k : Int)) (hk : k < l.length) (hb : b = l[k]) : XS P S L ⟨d, .index t x y, ty, pos, af, g⟩ (.int .u8 (b.toNat : Int)) := fun _ _ w hE _ => by
  subst hm hb
  have h := run_index_string (P := P) w t (bs l) q (k : Int) ht
  rw [dif_pos ⟨by omega, by rw [bs_size]; omega⟩] at h
  simp only [execOp, hE.ev hx, hE.ev hy, Sem.run_bind, h, Result.andThen_ok]
  rfl

theorem x_sliceSL {P : Program} {S : World → Prop} {L : List (Nat × Value)} {d : Option Tmp} {x lo : Operand} {t : TypeId} {l : List UInt8} {k : Nat} {m : Int} {q : IntKind} {ty : TypeId} {pos : String} {af : Array Edge} {g : Option (Nat × Bool)} (ht : P.underlying t = some .string) (hx : ev L x = some (.string (bs l))) (hlo : ev L lo = some (.int q m)) (hm : m = (k : Int)) (hk : k ≤ l.length) : XS P S L ⟨d, .slice t x (some lo) none none, ty, pos, af, g⟩ (.string (bs (l.drop k))) := fun _ _ _ hE _ => by
  subst hm
  have hsz := bs_size l
  have e : (bs l).extract k (bs l).size = bs (l.drop k) := by
    refine WideShapes.bytes_inj ?_
    rw [Go.Lib.extract_data, hsz]
    exact List.take_of_length_le (by rw [List.length_drop]; exact Nat.le_refl _)
  simp [execOp, hE.ev hx, hE.ev hlo, Instr.sliceAt, Instr.slice, run_underlying ht, Instr.sliceBounds, Instr.sliceBound, asIntOf, hsz, hk]
  simpa [hsz] using e

theorem x_sliceSH {P : Program} {S : World → Prop} {L : List (Nat × Value)} {d : Option Tmp} {x lo hi : Operand} {t : TypeId} {l : List UInt8} {k k2 : Nat} {m m2 : Int} {q q2 : IntKind} {ty : TypeId} {pos : String} {af : Array Edge} {g : Option (Nat × Bool)} (ht : P.underlying t = some .string) (hx : ev L x = some (.string (bs l))) (hlo : ev L lo = some (.int q m)) (hhi : ev L hi = some (.int q2 m2)) (hm : m = (k : Int)) (hm2 : m2 = (k2 : Int)) (hk : k ≤ k2) (hk2 : k2 ≤ l.length) : XS P S L ⟨d, .slice t x (some lo) (some hi) none, ty, pos, af, g⟩ (.string (bs ((l.drop k).take (k2 - k)))) := fun _ _ _ hE _ => by
  subst hm hm2
  have hsz := bs_size l
  have e : (bs l).extract k k2 = bs ((l.drop k).take (k2 - k)) := by
    refine WideShapes.bytes_inj ?_
    rw [Go.Lib.extract_data]
  simp [execOp, hE.ev hx, hE.ev hlo, hE.ev hhi, Instr.sliceAt, Instr.slice, run_underlying ht, Instr.sliceBounds, Instr.sliceBound, asIntOf, hsz, hk, hk2]
  simpa [hsz] using e

theorem x_conv32 {P : Program} {S : World → Prop} {L : List (Nat × Value)} {d : Option Tmp} {s t : TypeId} {x : Operand} {q : IntKind} {m : Int} {ty : TypeId} {pos : String} {af : Array Edge} {g : Option (Nat × Bool)} {sd : TypeDesc} (hs : P.underlying s = some sd) (ht : P.underlying t = some (.int .i32)) (hx : ev L x = some (.int q m)) (h : -2147483648 ≤ m ∧ m ≤ 2147483647) : XS P S L ⟨d, .convert s t x, ty, pos, af, g⟩ (.int .i32 m) := fun _ _ _ hE _ => by
  have e : IntKind.i32.wrap m = m := IntWalk.i32_in _ h
  simp [execOp, hE.ev hx, convert, run_underlying hs, run_underlying ht, Conv.intToInt, e]

theorem c_ownS {M : Nat → Prop} {w0 : World} {rs : List Res} {S : Nat → Prop} {b off c k : Nat} {xs : List (List UInt8)} {y : List UInt8} (i : Nat) (hi : rs[i]? = some (rSo eTxt S (some ⟨b, off, none⟩) c xs)) (hk : k < xs.length) (hy : xs[k] = y) : ∀ w, Held M w0 rs w → w.cell? ⟨b, off + k * 1, none⟩ = some (.string (bs y)) := fun w h => by
  obtain ⟨b', off', es, hA, _, hR, hc⟩ := (h.sl hi).at hk
  simp only [Option.some.injEq, Addr.mk.injEq, and_true] at hA
  obtain ⟨rfl, rfl⟩ := hA
  obtain ⟨rfl, _⟩ := hR
  have := hc 0 _ rfl
  rw [← hy]; exact this

theorem i_ownS {M : Nat → Prop} {w0 w : World} {rs : List Res} {S : Nat → Prop} {A : Option Addr} {c k : Nat} {xs : List (List UInt8)} (h : Held M w0 rs w) (i : Nat) (hi : rs[i]? = some (rSo eTxt S A c xs)) (hk : k < xs.length) : xs[k].length ≤ 9223372036854775807 := by
  obtain ⟨b', off', es, hA, _, hR, hc⟩ := (h.sl hi).at hk
  exact hR.2

/-- A builder in block b, its own blocks in S, holding the bytes l. -/
def BldIn (T e : TypeId) (B b : Nat) (S : Nat → Prop) (l : List UInt8) (w : World) : Prop :=
  Lib.IsBuilderF T e B b (Lib.byteCells l) w ∧ S b ∧ ∀ p v g, w.heap[b]? = some (.cells #[p, v] T (0, 0)) → v.ownBlock = some g → S g

theorem BldIn.loc {T e : TypeId} {B b : Nat} {S : Nat → Prop} {l : List UInt8} {w w' : World} (hs : ∀ k, S k → w'.heap[k]? = w.heap[k]?) (h : BldIn T e B b S l w) : BldIn T e B b S l w' := by
  obtain ⟨h1, h2, h3⟩ := h
  have key : ∀ p, Lib.BuilderAtF T e B b p (Lib.byteCells l) w → Lib.BuilderAtF T e B b p (Lib.byteCells l) w' := by
    rintro p ⟨hB, v, hb, hown, hne⟩
    refine ⟨hB, v, (hs b h2).trans hb, ⟨hown.1, ?_⟩, hne⟩
    rcases hown.2 with hn | ⟨g, cap, cur, fz, rfl, hbg, hg, rest⟩
    · exact .inl hn
    · exact .inr ⟨g, cap, cur, fz, rfl, hbg, (hs g (h3 _ _ g hb (by simp [Value.ownBlock]))).trans hg, rest⟩
  refine ⟨?_, h2, fun p v g hb hv => h3 p v g ((hs b h2).symm.trans hb) hv⟩
  rcases h1 with h | h
  · exact .inl (key _ h)
  · exact .inr (key _ h)

def rBldT (T e : TypeId) (B b : Nat) (S : Nat → Prop) (l : List UInt8) : Res := ⟨S, BldIn T e B b S l, fun _ _ hs h => BldIn.loc hs h⟩

theorem BldIn.mk {T e : TypeId} {B b : Nat} {l : List UInt8} {w : World} (h : Lib.IsBuilderF T e B b (Lib.byteCells l) w) : BldIn T e B b (Iv B w.heap.size) l w := by
  have hb : B ≤ b ∧ b < w.heap.size := by
    rcases h with h | h
    · exact ⟨h.1, h.lt⟩
    · exact ⟨h.1, h.lt⟩
  refine ⟨h, hb, fun p v g hh hv => ?_⟩
  have key : ∀ q, Lib.BuilderAtF T e B b q (Lib.byteCells l) w → Iv B w.heap.size g := by
    rintro q ⟨_, v', hb', hown, _⟩
    rw [hh] at hb'
    simp only [Option.some.injEq, Obj.cells.injEq, and_true] at hb'
    have e2 : v = v' := by
      have := congrArg (fun a : Array Value => a[1]?) hb'
      simpa using this
    subst e2
    exact hown.lt g hv
  rcases h with h | h
  · exact key _ h
  · exact key _ h

theorem Held.bldCall {T e : TypeId} {w0 w w' : World} {b : Nat} {S : Nat → Prop} {l l' : List UInt8} (h : Held Nob w0 [rBldT T e w0.heap.size b S l] w) (hb : Below w0.heap.size w w') (hi : Lib.IsBuilderF T e w0.heap.size b (Lib.byteCells l') w') : ∃ S', Held Nob w0 [rBldT T e w0.heap.size b S' l'] w' := by
  refine ⟨Iv w0.heap.size w'.heap.size, ?_⟩
  have hb2 : Below w0.heap.size w0 w' := h.below.trans hb
  exact ⟨.of_below hb2, by intro r hr; obtain rfl := List.mem_singleton.1 hr; exact BldIn.mk hi, by intro r hr; obtain rfl := List.mem_singleton.1 hr; exact fun k hk => ⟨.inr hk.1, hk.2⟩, List.pairwise_singleton _ _⟩

theorem Held.toBld {T e : TypeId} {w0 w : World} {b : Nat} {rs : List Res} (h : Held Nob w0 (rBlk b T [.pointer none, .slice none 0 0] :: rs) w) : ∃ S, Held Nob w0 [rBldT T e w0.heap.size b S []] w := by
  have hB : Blk w b T #[.pointer none, .slice none 0 0] := h.ok _ List.mem_cons_self
  have hr := h.rng _ (List.mem_cons_self) b rfl
  have hle : w0.heap.size ≤ b := hr.1.resolve_left fun x => x.elim
  have hi : Lib.IsBuilderF T e w0.heap.size b (Lib.byteCells []) w := .inl ⟨hle, _, hB, by simpa [Lib.byteCells] using World.ownsRowF_nil w w0.heap.size e 1, by simp [Value.ownBlock]⟩
  refine ⟨Iv w0.heap.size w.heap.size, ⟨h.chg, ?_, ?_, List.pairwise_singleton _ _⟩⟩
  · intro r hr; obtain rfl := List.mem_singleton.1 hr; exact BldIn.mk hi
  · intro r hr; obtain rfl := List.mem_singleton.1 hr; exact fun k hk => ⟨.inr hk.1, hk.2⟩

theorem Held.isBld {T e : TypeId} {M : Nat → Prop} {w0 w : World} {B b : Nat} {S : Nat → Prop} {l : List UInt8} {rs : List Res} (h : Held M w0 (rBldT T e B b S l :: rs) w) : Lib.IsBuilderF T e B b (Lib.byteCells l) w := (h.ok _ List.mem_cons_self : BldIn T e B b S l w).1

theorem byteCells_app (a b : List UInt8) : Lib.byteCells (a ++ b) = Lib.byteCells a ++ Lib.byteCells b := by simp [Lib.byteCells]

theorem byteCells_len (a : List UInt8) : (Lib.byteCells a).length = a.length := by simp [Lib.byteCells]

theorem runeCells_ascii {r : Int} (h0 : 0 ≤ r) (h1 : r < 128) : Lib.runeCells r = Lib.byteCells [UInt8.ofNat r.toNat] := by
  rw [← Lib.byteCells_encodeRune]
  unfold Lib.encodeRune Lib.encodeRuneZ
  rw [if_pos ⟨h0, by omega⟩]
  simp [Lib.byteCells]

theorem x_add32 {P : Program} {S : World → Prop} {L : List (Nat × Value)} {d : Option Tmp} {t t' : TypeId} {x y : Operand} {m k : Int} {ty : TypeId} {pos : String} {af : Array Edge} {g : Option (Nat × Bool)} (hx : ev L x = some (.int .i32 m)) (hy : ev L y = some (.int .i32 k)) (h : -2147483648 ≤ m + k ∧ m + k ≤ 2147483647) : XS P S L ⟨d, .binOp .add t x y t', ty, pos, af, g⟩ (.int .i32 (m + k)) := fun _ _ _ hE _ => by
  have e : IntKind.i32.wrap (m + k) = m + k := IntWalk.i32_in _ h
  simp only [execOp, hE.ev hx, hE.ev hy, eqGuard, binOp, Op.intArith, e]; rfl

theorem x_sub8 {P : Program} {S : World → Prop} {L : List (Nat × Value)} {d : Option Tmp} {t t' : TypeId} {x y : Operand} {m k : Int} {ty : TypeId} {pos : String} {af : Array Edge} {g : Option (Nat × Bool)} (hx : ev L x = some (.int .u8 m)) (hy : ev L y = some (.int .u8 k)) (h : 0 ≤ m - k ∧ m - k ≤ 255) : XS P S L ⟨d, .binOp .sub t x y t', ty, pos, af, g⟩ (.int .u8 (m - k)) := fun _ _ _ hE _ => by
  have e : IntKind.u8.wrap (m - k) = m - k := IntWalk.u8_in _ h
  simp only [execOp, hE.ev hx, hE.ev hy, eqGuard, binOp, Op.intArith, e]; rfl

/-- What a package-level variable holds stays when only new blocks come and blocks behind it change. -/
theorem tab_below {P : Program} {w w' : World} {name : String} {k : IntKind} {zs : List Int} {g : Nat} (hg : P.globalNamed name = some g) (h : Lib.TabIs P w name k zs) (hb : Below w.heap.size w w') : Lib.TabIs P w' name k zs := by
  unfold Lib.TabIs World.var? at h ⊢
  rw [hg] at h ⊢
  simp only [Option.bind_some] at h ⊢
  have hlt : g < w.heap.size := by
    rcases Nat.lt_or_ge g w.heap.size with hlt | hge
    · exact hlt
    · rw [Array.getElem?_eq_none hge] at h; cases h
  rw [hb.block g hlt]
  exact h

/-- Two struct values compared. -/
theorem x_aeql {P : Program} {S : World → Prop} {L : List (Nat × Value)} {d : Option Tmp} {t t' : TypeId} {x y : Operand} {xs ys : Array Value} {r : Bool} {ty : TypeId} {pos : String} {af : Array Edge} {g : Option (Nat × Bool)} (hm : P.eqGuardType P.depth t = false) (he : ∀ w, (Op.equalIn 10000 t (.agg xs) (.agg ys)).run P w = .ok r w) (hx : ev L x = some (.agg xs)) (hy : ev L y = some (.agg ys)) : XS P S L ⟨d, .binOp .eql t x y t', ty, pos, af, g⟩ (.bool r) := fun _ _ w hE _ => by
  simp only [execOp, hE.ev hx, hE.ev hy, Sem.run_bind, run_eqGuard_agg w .eql t x y xs ys hm, Result.andThen_ok, run_eql_struct, he]
  rfl

theorem x_aneq {P : Program} {S : World → Prop} {L : List (Nat × Value)} {d : Option Tmp} {t t' : TypeId} {x y : Operand} {xs ys : Array Value} {r : Bool} {ty : TypeId} {pos : String} {af : Array Edge} {g : Option (Nat × Bool)} (hm : P.eqGuardType P.depth t = false) (he : ∀ w, (Op.equalIn 10000 t (.agg xs) (.agg ys)).run P w = .ok r w) (hx : ev L x = some (.agg xs)) (hy : ev L y = some (.agg ys)) : XS P S L ⟨d, .binOp .neq t x y t', ty, pos, af, g⟩ (.bool (!r)) := fun _ _ w hE _ => by
  simp only [execOp, hE.ev hx, hE.ev hy, Sem.run_bind, run_eqGuard_agg w .neq t x y xs ys hm, Result.andThen_ok, run_neq_struct, he]
  rfl

theorem tv_2 : TV Tryz.prog 2 false [.int .i64 0] := by
  obtain ⟨i, h1, h2, h3⟩ := tv_parts (show (Tryz.prog.info? 2).map (fun i => (i.zero, i.size)) = some (some (.int .i64 0), 1) from by kernel_rfl)
  exact ⟨⟨_, Tryz.underlying2, rfl⟩, i, _, h1, h2, h3, rfl⟩

theorem tv_9 : TV Tryz.prog 9 false [.string ByteArray.empty] := by
  obtain ⟨i, h1, h2, h3⟩ := tv_parts (show (Tryz.prog.info? 9).map (fun i => (i.zero, i.size)) = some (some (.string ByteArray.empty), 1) from by kernel_rfl)
  exact ⟨⟨_, Tryz.underlying9, rfl⟩, i, _, h1, h2, h3, rfl⟩

theorem tv_24 : TV Tryz.prog 24 true [.int .i64 0, .int .i64 0, .slice none 0 0] := by
  obtain ⟨i, h1, h2, h3⟩ := tv_parts (show (Tryz.prog.info? 24).map (fun i => (i.zero, i.size)) = some (some (.agg #[.int .i64 0, .int .i64 0, .slice none 0 0]), 3) from by kernel_rfl)
  exact ⟨⟨_, Tryz.underlying24, rfl⟩, i, _, h1, h2, h3, rfl⟩

theorem tv_26 : TV Tryz.prog 26 false [.slice none 0 0] := by
  obtain ⟨i, h1, h2, h3⟩ := tv_parts (show (Tryz.prog.info? 26).map (fun i => (i.zero, i.size)) = some (some (.slice none 0 0), 1) from by kernel_rfl)
  exact ⟨⟨_, Tryz.underlying26, rfl⟩, i, _, h1, h2, h3, rfl⟩

theorem tv_28 : TV Tryz.prog 28 true [.int .i64 0, .slice none 0 0, .slice none 0 0] := by
  obtain ⟨i, h1, h2, h3⟩ := tv_parts (show (Tryz.prog.info? 28).map (fun i => (i.zero, i.size)) = some (some (.agg #[.int .i64 0, .slice none 0 0, .slice none 0 0]), 3) from by kernel_rfl)
  exact ⟨⟨_, Tryz.underlying28, rfl⟩, i, _, h1, h2, h3, rfl⟩

theorem tv_31 : TV Tryz.prog 31 false [.slice none 0 0] := by
  obtain ⟨i, h1, h2, h3⟩ := tv_parts (show (Tryz.prog.info? 31).map (fun i => (i.zero, i.size)) = some (some (.slice none 0 0), 1) from by kernel_rfl)
  exact ⟨⟨_, Tryz.underlying31, rfl⟩, i, _, h1, h2, h3, rfl⟩

theorem tv_33 : TV Tryz.prog 33 true [.int .i64 0, .int .i64 0, .slice none 0 0] := by
  obtain ⟨i, h1, h2, h3⟩ := tv_parts (show (Tryz.prog.info? 33).map (fun i => (i.zero, i.size)) = some (some (.agg #[.int .i64 0, .int .i64 0, .slice none 0 0]), 3) from by kernel_rfl)
  exact ⟨⟨_, Tryz.underlying33, rfl⟩, i, _, h1, h2, h3, rfl⟩

theorem tv_92 : TV Tryz.prog 92 true [.int .i64 0, .int .i64 0, .int .i64 0] := by
  obtain ⟨i, h1, h2, h3⟩ := tv_parts (show (Tryz.prog.info? 92).map (fun i => (i.zero, i.size)) = some (some (.agg #[.int .i64 0, .int .i64 0, .int .i64 0]), 3) from by kernel_rfl)
  exact ⟨⟨_, Tryz.underlying92, rfl⟩, i, _, h1, h2, h3, rfl⟩

theorem tv_126 : TV Tryz.prog 126 true [.pointer none, .slice none 0 0] := by
  obtain ⟨i, h1, h2, h3⟩ := tv_parts (show (Tryz.prog.info? 126).map (fun i => (i.zero, i.size)) = some (some (.agg #[.pointer none, .slice none 0 0]), 2) from by kernel_rfl)
  exact ⟨⟨_, Tryz.underlying126, rfl⟩, i, _, h1, h2, h3, rfl⟩

theorem ts_26 : TSl Tryz.prog 26 2 1 8 := by
  obtain ⟨i, h1, h2, h3, h4⟩ := ts_parts (show (Tryz.prog.info? 2).map (fun i => (i.zero, i.size, i.bytes)) = some (some (.int .i64 0), 1, 8) from by kernel_rfl)
  exact ⟨Tryz.underlying26, i, _, h1, h2, h3, h4, rfl⟩

theorem fa_28_0 : ∀ b o w, (Instr.fieldAt 28 (.pointer (some ⟨b, o, none⟩)) 0).run Tryz.prog w = .ok (.pointer (some ⟨b, o + 0, none⟩)) w := by
  obtain ⟨i, z, h1, _, h3, _⟩ := tv_2.info
  exact fun b o w => fieldAt_of (f := 0) Tryz.underlying28 rfl h1 (by rw [h3]; decide) b o w

theorem fa_28_1 : ∀ b o w, (Instr.fieldAt 28 (.pointer (some ⟨b, o, none⟩)) 1).run Tryz.prog w = .ok (.pointer (some ⟨b, o + 1, none⟩)) w := by
  obtain ⟨i, z, h1, _, h3, _⟩ := tv_26.info
  exact fun b o w => fieldAt_of (f := 1) Tryz.underlying28 rfl h1 (by rw [h3]; decide) b o w

theorem fa_28_2 : ∀ b o w, (Instr.fieldAt 28 (.pointer (some ⟨b, o, none⟩)) 2).run Tryz.prog w = .ok (.pointer (some ⟨b, o + 2, none⟩)) w := by
  obtain ⟨i, z, h1, _, h3, _⟩ := tv_26.info
  exact fun b o w => fieldAt_of (f := 2) Tryz.underlying28 rfl h1 (by rw [h3]; decide) b o w

theorem tb_28 : TB Tryz.prog 28 [.int .i64 0, .slice none 0 0, .slice none 0 0] := by
  refine ⟨tv_28, _, #[(0, 1), (1, 1), (2, 1)], Tryz.underlying28, fun w => ?_, fun i hi => ?_⟩
  · obtain ⟨i2, z2, h2, _, s2, _⟩ := tv_2.info; simp only [List.length_cons, List.length_nil] at s2; obtain ⟨i26, z26, h26, _, s26, _⟩ := tv_26.info; simp only [List.length_cons, List.length_nil] at s26
    simp [sizeOf, typeInfo, h2, s2, h26, s26]
  · simp only [List.length_cons, List.length_nil] at hi
    match i, hi with
    | 0, _ => rfl
    | 1, _ => rfl
    | 2, _ => rfl

theorem ts_31 : TSl Tryz.prog 31 92 3 24 := by
  obtain ⟨i, h1, h2, h3, h4⟩ := ts_parts (show (Tryz.prog.info? 92).map (fun i => (i.zero, i.size, i.bytes)) = some (some (.agg #[.int .i64 0, .int .i64 0, .int .i64 0]), 3, 24) from by kernel_rfl)
  exact ⟨Tryz.underlying31, i, _, h1, h2, h3, h4, rfl⟩

theorem fa_33_0 : ∀ b o w, (Instr.fieldAt 33 (.pointer (some ⟨b, o, none⟩)) 0).run Tryz.prog w = .ok (.pointer (some ⟨b, o + 0, none⟩)) w := by
  obtain ⟨i, z, h1, _, h3, _⟩ := tv_2.info
  exact fun b o w => fieldAt_of (f := 0) Tryz.underlying33 rfl h1 (by rw [h3]; decide) b o w

theorem fa_33_1 : ∀ b o w, (Instr.fieldAt 33 (.pointer (some ⟨b, o, none⟩)) 1).run Tryz.prog w = .ok (.pointer (some ⟨b, o + 1, none⟩)) w := by
  obtain ⟨i, z, h1, _, h3, _⟩ := tv_2.info
  exact fun b o w => fieldAt_of (f := 1) Tryz.underlying33 rfl h1 (by rw [h3]; decide) b o w

theorem fa_33_2 : ∀ b o w, (Instr.fieldAt 33 (.pointer (some ⟨b, o, none⟩)) 2).run Tryz.prog w = .ok (.pointer (some ⟨b, o + 2, none⟩)) w := by
  obtain ⟨i, z, h1, _, h3, _⟩ := tv_31.info
  exact fun b o w => fieldAt_of (f := 2) Tryz.underlying33 rfl h1 (by rw [h3]; decide) b o w

theorem ts_58 : TSl Tryz.prog 58 9 1 16 := by
  obtain ⟨i, h1, h2, h3, h4⟩ := ts_parts (show (Tryz.prog.info? 9).map (fun i => (i.zero, i.size, i.bytes)) = some (some (.string ByteArray.empty), 1, 16) from by kernel_rfl)
  exact ⟨Tryz.underlying58, i, _, h1, h2, h3, h4, rfl⟩

theorem fa_92_0 : ∀ b o w, (Instr.fieldAt 92 (.pointer (some ⟨b, o, none⟩)) 0).run Tryz.prog w = .ok (.pointer (some ⟨b, o + 0, none⟩)) w := by
  obtain ⟨i, z, h1, _, h3, _⟩ := tv_2.info
  exact fun b o w => fieldAt_of (f := 0) Tryz.underlying92 rfl h1 (by rw [h3]; decide) b o w

theorem fa_92_1 : ∀ b o w, (Instr.fieldAt 92 (.pointer (some ⟨b, o, none⟩)) 1).run Tryz.prog w = .ok (.pointer (some ⟨b, o + 1, none⟩)) w := by
  obtain ⟨i, z, h1, _, h3, _⟩ := tv_2.info
  exact fun b o w => fieldAt_of (f := 1) Tryz.underlying92 rfl h1 (by rw [h3]; decide) b o w

theorem fa_92_2 : ∀ b o w, (Instr.fieldAt 92 (.pointer (some ⟨b, o, none⟩)) 2).run Tryz.prog w = .ok (.pointer (some ⟨b, o + 2, none⟩)) w := by
  obtain ⟨i, z, h1, _, h3, _⟩ := tv_2.info
  exact fun b o w => fieldAt_of (f := 2) Tryz.underlying92 rfl h1 (by rw [h3]; decide) b o w

theorem tb_92 : TB Tryz.prog 92 [.int .i64 0, .int .i64 0, .int .i64 0] := by
  refine ⟨tv_92, _, #[(0, 1), (1, 1), (2, 1)], Tryz.underlying92, fun w => ?_, fun i hi => ?_⟩
  · obtain ⟨i2, z2, h2, _, s2, _⟩ := tv_2.info; simp only [List.length_cons, List.length_nil] at s2
    simp [sizeOf, typeInfo, h2, s2]
  · simp only [List.length_cons, List.length_nil] at hi
    match i, hi with
    | 0, _ => rfl
    | 1, _ => rfl
    | 2, _ => rfl

theorem en_5 : ∀ args w, (callFunc 5 args).run Tryz.prog w = .ok (.enter 5 args) w := enters_of Tryz.func5 (by kernel_rfl) rfl

theorem en_6 : ∀ args w, (callFunc 6 args).run Tryz.prog w = .ok (.enter 6 args) w := enters_of Tryz.func6 (by kernel_rfl) rfl

theorem en_7 : ∀ args w, (callFunc 7 args).run Tryz.prog w = .ok (.enter 7 args) w := enters_of Tryz.func7 (by kernel_rfl) rfl

theorem en_8 : ∀ args w, (callFunc 8 args).run Tryz.prog w = .ok (.enter 8 args) w := enters_of Tryz.func8 (by kernel_rfl) rfl

theorem en_9 : ∀ args w, (callFunc 9 args).run Tryz.prog w = .ok (.enter 9 args) w := enters_of Tryz.func9 (by kernel_rfl) rfl

theorem en_10 : ∀ args w, (callFunc 10 args).run Tryz.prog w = .ok (.enter 10 args) w := enters_of Tryz.func10 (by kernel_rfl) rfl

theorem en_11 : ∀ args w, (callFunc 11 args).run Tryz.prog w = .ok (.enter 11 args) w := enters_of Tryz.func11 (by kernel_rfl) rfl

theorem en_12 : ∀ args w, (callFunc 12 args).run Tryz.prog w = .ok (.enter 12 args) w := enters_of Tryz.func12 (by kernel_rfl) rfl

theorem en_13 : ∀ args w, (callFunc 13 args).run Tryz.prog w = .ok (.enter 13 args) w := enters_of Tryz.func13 (by kernel_rfl) rfl

theorem en_24 : ∀ args w, (callFunc 24 args).run Tryz.prog w = .ok (.enter 24 args) w := enters_of Tryz.func24 (by kernel_rfl) rfl

theorem en_25 : ∀ args w, (callFunc 25 args).run Tryz.prog w = .ok (.enter 25 args) w := enters_of Tryz.func25 (by kernel_rfl) rfl

theorem en_26 : ∀ args w, (callFunc 26 args).run Tryz.prog w = .ok (.enter 26 args) w := enters_of Tryz.func26 (by kernel_rfl) rfl

theorem en_27 : ∀ args w, (callFunc 27 args).run Tryz.prog w = .ok (.enter 27 args) w := enters_of Tryz.func27 (by kernel_rfl) rfl

theorem en_28 : ∀ args w, (callFunc 28 args).run Tryz.prog w = .ok (.enter 28 args) w := enters_of Tryz.func28 (by kernel_rfl) rfl

theorem en_29 : ∀ args w, (callFunc 29 args).run Tryz.prog w = .ok (.enter 29 args) w := enters_of Tryz.func29 (by kernel_rfl) rfl

theorem en_30 : ∀ args w, (callFunc 30 args).run Tryz.prog w = .ok (.enter 30 args) w := enters_of Tryz.func30 (by kernel_rfl) rfl

theorem en_32 : ∀ args w, (callFunc 32 args).run Tryz.prog w = .ok (.enter 32 args) w := enters_of Tryz.func32 (by kernel_rfl) rfl

theorem en_33 : ∀ args w, (callFunc 33 args).run Tryz.prog w = .ok (.enter 33 args) w := enters_of Tryz.func33 (by kernel_rfl) rfl

theorem en_34 : ∀ args w, (callFunc 34 args).run Tryz.prog w = .ok (.enter 34 args) w := enters_of Tryz.func34 (by kernel_rfl) rfl

theorem en_35 : ∀ args w, (callFunc 35 args).run Tryz.prog w = .ok (.enter 35 args) w := enters_of Tryz.func35 (by kernel_rfl) rfl

theorem en_36 : ∀ args w, (callFunc 36 args).run Tryz.prog w = .ok (.enter 36 args) w := enters_of Tryz.func36 (by kernel_rfl) rfl

theorem en_43 : ∀ args w, (callFunc 43 args).run Tryz.prog w = .ok (.enter 43 args) w := enters_of Tryz.func43 (by kernel_rfl) rfl

theorem en_55 : ∀ args w, (callFunc 55 args).run Tryz.prog w = .ok (.enter 55 args) w := enters_of Tryz.func55 (by kernel_rfl) rfl

theorem en_64 : ∀ args w, (callFunc 64 args).run Tryz.prog w = .ok (.enter 64 args) w := enters_of Tryz.func64 (by kernel_rfl) rfl

theorem en_65 : ∀ args w, (callFunc 65 args).run Tryz.prog w = .ok (.enter 65 args) w := enters_of Tryz.func65 (by kernel_rfl) rfl

theorem en_66 : ∀ args w, (callFunc 66 args).run Tryz.prog w = .ok (.enter 66 args) w := enters_of Tryz.func66 (by kernel_rfl) rfl

theorem en_67 : ∀ args w, (callFunc 67 args).run Tryz.prog w = .ok (.enter 67 args) w := enters_of Tryz.func67 (by kernel_rfl) rfl

theorem en_68 : ∀ args w, (callFunc 68 args).run Tryz.prog w = .ok (.enter 68 args) w := enters_of Tryz.func68 (by kernel_rfl) rfl

theorem en_71 : ∀ args w, (callFunc 71 args).run Tryz.prog w = .ok (.enter 71 args) w := enters_of Tryz.func71 (by kernel_rfl) rfl

theorem en_72 : ∀ args w, (callFunc 72 args).run Tryz.prog w = .ok (.enter 72 args) w := enters_of Tryz.func72 (by kernel_rfl) rfl

theorem en_73 : ∀ args w, (callFunc 73 args).run Tryz.prog w = .ok (.enter 73 args) w := enters_of Tryz.func73 (by kernel_rfl) rfl

theorem en_75 : ∀ args w, (callFunc 75 args).run Tryz.prog w = .ok (.enter 75 args) w := enters_of Tryz.func75 (by kernel_rfl) rfl

theorem en_76 : ∀ args w, (callFunc 76 args).run Tryz.prog w = .ok (.enter 76 args) w := enters_of Tryz.func76 (by kernel_rfl) rfl

theorem en_90 : ∀ args w, (callFunc 90 args).run Tryz.prog w = .ok (.enter 90 args) w := enters_of Tryz.func90 (by kernel_rfl) rfl

theorem en_94 : ∀ args w, (callFunc 94 args).run Tryz.prog w = .ok (.enter 94 args) w := enters_of Tryz.func94 (by kernel_rfl) rfl

theorem en_96 : ∀ args w, (callFunc 96 args).run Tryz.prog w = .ok (.enter 96 args) w := enters_of Tryz.func96 (by kernel_rfl) rfl

theorem en_97 : ∀ args w, (callFunc 97 args).run Tryz.prog w = .ok (.enter 97 args) w := enters_of Tryz.func97 (by kernel_rfl) rfl

theorem en_98 : ∀ args w, (callFunc 98 args).run Tryz.prog w = .ok (.enter 98 args) w := enters_of Tryz.func98 (by kernel_rfl) rfl

theorem en_99 : ∀ args w, (callFunc 99 args).run Tryz.prog w = .ok (.enter 99 args) w := enters_of Tryz.func99 (by kernel_rfl) rfl

theorem en_115 : ∀ args w, (callFunc 115 args).run Tryz.prog w = .ok (.enter 115 args) w := enters_of Tryz.func115 (by kernel_rfl) rfl

theorem en_116 : ∀ args w, (callFunc 116 args).run Tryz.prog w = .ok (.enter 116 args) w := enters_of Tryz.func116 (by kernel_rfl) rfl

theorem en_117 : ∀ args w, (callFunc 117 args).run Tryz.prog w = .ok (.enter 117 args) w := enters_of Tryz.func117 (by kernel_rfl) rfl

theorem en_118 : ∀ args w, (callFunc 118 args).run Tryz.prog w = .ok (.enter 118 args) w := enters_of Tryz.func118 (by kernel_rfl) rfl

theorem en_119 : ∀ args w, (callFunc 119 args).run Tryz.prog w = .ok (.enter 119 args) w := enters_of Tryz.func119 (by kernel_rfl) rfl

theorem en_139 : ∀ args w, (callFunc 139 args).run Tryz.prog w = .ok (.enter 139 args) w := enters_of Tryz.func139 (by kernel_rfl) rfl

theorem en_140 : ∀ args w, (callFunc 140 args).run Tryz.prog w = .ok (.enter 140 args) w := enters_of Tryz.func140 (by kernel_rfl) rfl

theorem en_153 : ∀ args w, (callFunc 153 args).run Tryz.prog w = .ok (.enter 153 args) w := enters_of Tryz.func153 (by kernel_rfl) rfl

theorem hmix : Tryz.prog.follows .mixedOrders = true := by kernel_rfl

theorem ct_L_len (xs : List Int) : ct_L xs = xs.length := by
  have := cntL_const ct_i 1 xs fun _ => rfl
  unfold ct_L; omega

theorem elem_Int64 : Elem Tryz.prog eInt 26 2 8 := by
  obtain ⟨i0, hi0, hz0, hz1, hz2⟩ := info_parts info_impl_Int64
  exact ⟨Tryz.underlying26, i0, _, hi0, hz0, hz1, hz2, rfl⟩

set_option maxHeartbeats 400000 in
theorem spec_l00Own (A : Option Addr) (c : Nat) (xs : List Int) (w : World) (h : Sl eInt w (Old w) A c xs) (hsm : xs.length ≤ 1000000000000) :
    Calls Tryz.prog 29 #[.slice A xs.length c] w fun e w' => ∃ A' c', e = .returned (.slice A' xs.length c') ∧ So eInt w' (Fr w w') A' c' xs ∧ Below w.heap.size w w' := by
  have H := Lib.hid (h.on (below_alloc (Below.refl _ _) (.cells #[] 2))); clear h
  go_enter Tryz.func29, Tryz.ntmps29
  go_wp2_with (at_builtin; refine wpList_append_row flat_int elem_Int64 rfl _ _ rfl (base := w.heap.size) rfl (Row.empty (Nat.le_refl _)) rfl H.out (by simp only [List.length_nil]; unfold maxLen; omega) (by simp only [List.length_nil]; omega) (by simp) ?_)
  intro v' w1 hrow hgrow hat
  try rw [List.nil_append] at hrow
  obtain ⟨A', c', rfl, hso⟩ := hrow.so
  have HO := Lib.hid hso
  have HL : Hid (Below w.heap.size w w1) := ((Below.refl _ w).alloc (Nat.le_refl _) _).grown hgrow (by simp) (by intro k hk; simp [Value.ownBlock] at hk; omega)
  clear hrow hgrow hat hso
  go_wp2
  go_ret
  exact ⟨A', c', rfl, HO.out, HL.out⟩

set_option maxHeartbeats 400000 in
theorem Clone_Int64 (A : Option Addr) (c : Nat) (xs : List Int) (w : World) (h : Sl eInt w (Old w) A c xs) (hsm : xs.length ≤ 1000000000000) :
    Calls Tryz.prog 59 #[.slice A xs.length c] w fun e w' => ∃ A' c', e = .returned (.slice A' xs.length c') ∧ So eInt w' (Fr w w') A' c' xs ∧ Below w.heap.size w w' := by
  have q22 : ∀ (w : World) (a : Option Addr) (n c n' c' : Nat), (binOp .eql 26 (.slice a n c) (.slice none n' c')).run Tryz.prog w = .ok (.bool a.isNone) w := fun w a n c n' c' => Lib.run_eql_slice_nil w _ _ a n c n' c' Tryz.underlying26
  cases A with
  | none =>
    have hx : xs = [] := Classical.byContradiction fun hn => by
      obtain ⟨b, off, hA, _⟩ := h.2.2 hn
      cases hA
    subst hx
    clear h
    go_enter Tryz.func59, Tryz.ntmps59
    go_wp2
    go_ret
    exact ⟨none, 0, rfl, So.nil (Nat.zero_le _), Below.refl _ _⟩
  | some ad =>
    have H := Lib.hid (h.on (below_alloc (Below.refl _ _) (.cells #[] 2))); clear h
    go_enter Tryz.func59, Tryz.ntmps59
    go_wp2_with (at_builtin; refine wpList_append_row flat_int elem_Int64 rfl _ _ rfl (base := w.heap.size) rfl (Row.empty (Nat.le_refl _)) rfl H.out (by simp only [List.length_nil]; unfold maxLen; omega) (by simp only [List.length_nil]; omega) (by simp) ?_)
    intro v' w1 hrow hgrow hat
    try rw [List.nil_append] at hrow
    obtain ⟨A', c', rfl, hso⟩ := hrow.so
    have HO := Lib.hid hso
    have HL : Hid (Below w.heap.size w w1) := ((Below.refl _ w).alloc (Nat.le_refl _) _).grown hgrow (by simp) (by intro k hk; simp [Value.ownBlock] at hk; omega)
    clear hrow hgrow hat hso
    go_wp2
    go_ret
    exact ⟨A', c', rfl, HO.out, HL.out⟩

/-- What the reversing loop has made after k rounds. -/
def RevTo (xs : List Int) (k : Nat) (ys : List Int) : Prop := ys.length = xs.length ∧ ∀ p, p < xs.length → ys[p]? = if p < k ∨ xs.length < p + k + 1 then xs[xs.length - 1 - p]? else xs[p]?

theorem revTo_zero (xs : List Int) : RevTo xs 0 xs := ⟨rfl, fun p hp => by rw [if_neg (by omega)]⟩

theorem revTo_end {xs ys : List Int} {k : Nat} (h : RevTo xs k ys) (hk : xs.length ≤ 2 * k + 1) : ys = xs.reverse := by
  apply List.ext_getElem?
  intro p
  by_cases hp : p < xs.length
  · rw [h.2 p hp, List.getElem?_reverse hp]
    split
    · rfl
    · rw [show xs.length - 1 - p = p from by omega]
  · rw [List.getElem?_eq_none (by rw [h.1]; omega), List.getElem?_eq_none (by simp; omega)]

theorem revTo_step {xs ys : List Int} {k m : Nat} (h : RevTo xs k ys) (hm : m + k + 1 = xs.length) (hkm : k < m) (h1 : k < ys.length) (h2 : m < ys.length) : RevTo xs (k + 1) ((ys.set k ys[m]).set m ys[k]) := by
  refine ⟨by simp [h.1], fun p hp => ?_⟩
  have hy : ∀ q (hq : q < ys.length), some ys[q] = ys[q]? := fun q hq => (List.getElem?_eq_getElem hq).symm
  by_cases e1 : p = m
  · subst e1
    rw [List.getElem?_set_self (by simpa using h2), hy, h.2 k (by omega), if_neg (by omega), if_pos (by omega), show xs.length - 1 - p = k from by omega]
  · rw [List.getElem?_set_ne (fun e => e1 e.symm)]
    by_cases e2 : p = k
    · subst e2
      rw [List.getElem?_set_self h1, hy, h.2 m (by omega), if_neg (by omega), if_pos (by omega), show xs.length - 1 - p = m from by omega]
    · rw [List.getElem?_set_ne (fun e => e2 e.symm), h.2 p hp]
      by_cases c : p < k ∨ xs.length < p + k + 1
      · rw [if_pos c, if_pos (by omega)]
      · rw [if_neg c, if_neg (by omega)]

set_option maxRecDepth 100000 in
set_option maxHeartbeats 2000000 in
theorem slices_Reverse (A : Option Addr) (c : Nat) (xs : List Int) (w : World) (S : Nat → Prop) (h : So eInt w S A c xs) (hS : ∀ b, S b → b < w.heap.size) :
    Calls Tryz.prog 74 #[.slice A xs.length c] w fun e w' => (∃ v, e = .returned v) ∧ So eInt w' S A c xs.reverse ∧ Chg S w w' := by
  have hlen := h.sl.len
  have H := Lib.hid h; clear h
  have HSS := Lib.hid hS; clear hS
  by_cases hx : xs.length = 0
  · have hx' : xs = [] := List.eq_nil_of_length_eq_zero hx
    subst hx'
    go_enter Tryz.func74, Tryz.ntmps74
    go_wp2
    go_loopw [2, 3] (fun s2 s3 wr => s2 = .int .i64 0 ∧ s3 = .int .i64 (-1) ∧ wr = w) (fun _ _ _ => 0)
    case atStart => exact ⟨rfl, rfl, rfl⟩
    case round =>
      obtain ⟨rfl, rfl, rfl⟩ := hrel
      go_wp2
      go_returns
      exact ⟨⟨_, rfl⟩, H.out, Chg.refl _ _⟩
  go_enter Tryz.func74, Tryz.ntmps74
  go_wp2
  go_loopw [2, 3] (fun s2 s3 wr => ∃ (k m : Nat) (ys : List Int), s2 = .int .i64 k ∧ s3 = .int .i64 m ∧ m + k + 1 = xs.length ∧ Hid (RevTo xs k ys) ∧ Hid (So eInt wr S A c ys) ∧ Hid (Chg S w wr)) (fun s2 _ _ => xs.length - (intOf s2).toNat)
  case atStart => exact ⟨0, xs.length - 1, xs, rfl, by go_num, by omega, revTo_zero xs, H, Chg.refl _ _⟩
  case round =>
    obtain ⟨k, m, ys, rfl, rfl, hkm, HR, HS, HG⟩ := hrel
    have hyl := HR.out.1
    by_cases hlt : k < m
    · have hltz : (k : Int) < (m : Int) := by omega
      have hk1 : k < ys.length := by omega
      have hm1 : m < ys.length := by omega
      obtain ⟨b, off, rfl, hb, ik, dk, fk⟩ := HS.out.getI hk1
      obtain ⟨b', off', hA, _, im, dm, fm⟩ := HS.out.getI hm1
      simp only [Option.some.injEq, Addr.mk.injEq, and_true] at hA
      obtain ⟨rfl, rfl⟩ := hA
      have hk2 : (k : Int) < (xs.length : Int) := by omega
      have hm2 : (m : Int) < (xs.length : Int) := by omega
      have HR2 := Lib.hid (revTo_step HR.out hkm hlt hk1 hm1)
      have HS2 := Lib.hid ((HS.out.setI hk1 im).setI (k := m) (by simpa using hm1) ik)
      have HG2 : Hid (Chg S w ((wr.setCell ⟨b, off + k, none⟩ (.int .i64 ys[m])).setCell ⟨b, off + m, none⟩ (.int .i64 ys[k]))) := (HG.out.set (by exact hb) _).set (by exact hb) _
      generalize ys[k] = yk at *
      generalize ys[m] = ym at *
      go_wp2_with fail
      go_region
      go_wp2
      go_roundw
      case rel => exact ⟨k + 1, m - 1, _, by go_num, by go_num, by omega, HR2.out, HS2.out.keep (fun _ _ => rfl), HG2.out.drew⟩
      case measure => simp [intOf]; omega
    · have hltz : ¬ (k : Int) < (m : Int) := by omega
      have HE : Hid (ys = xs.reverse) := revTo_end HR.out (by omega)
      go_wp2
      go_returns
      exact ⟨⟨_, rfl⟩, by rw [← HE.out]; exact HS.out, HG.out⟩

set_option maxHeartbeats 400000 in
theorem impl_reversed (A : Option Addr) (c : Nat) (xs : List Int) (w : World) (h : Sl eInt w (Old w) A c xs) (hsm : xs.length ≤ 1000000000000) :
    Calls Tryz.prog 35 #[.slice A xs.length c] w fun e w' => ∃ A' c', e = .returned (.slice A' xs.reverse.length c') ∧ So eInt w' (Fr w w') A' c' xs.reverse ∧ Below w.heap.size w w' := by
  have HC := Lib.hid (Clone_Int64 A c xs w h hsm); clear h
  go_enter Tryz.func35, Tryz.ntmps35
  go_wp2_with (first | (go_at_call 59; refine HC.out.mono ?_; rintro e w1 ⟨A1, c1, rfl, hso, hb⟩) | (go_at_call 74; refine (slices_Reverse _ _ xs _ _ hso (fun b hb => hb.2)).mono ?_; rintro e w2 ⟨⟨v, rfl⟩, hs2, hc2⟩))
  go_ret
  exact ⟨A1, c1, by rw [List.length_reverse]; rfl, hs2.more fun b hS => ⟨hS.1, Nat.lt_of_lt_of_le hS.2 hc2.size⟩, hb.trans (hc2.below hb.size fun b hS => hS.1)⟩

def outB (lo hi n : Int) : Bool := !withinB n lo hi

def allW (xs : List Int) (lo hi : Int) : Bool := !xs.any (outB lo hi)

theorem impl_allWithin (A : Option Addr) (c : Nat) (xs : List Int) (lo hi : Int) (w : World) (h : Sl eInt w (Old w) A c xs) :
    Calls Tryz.prog 55 #[.slice A xs.length c, .int .i64 lo, .int .i64 hi] w fun e w' => e = .returned (.bool (allW xs lo hi)) ∧ w = w' := by
  have hlen := h.len
  have H := Lib.hid h; clear h
  unfold allW
  go_enter Tryz.func55, Tryz.ntmps55
  go_wp2
  go_loop [8, 11] (fun _ i => ∃ k : Nat, k ≤ xs.length ∧ i = .int .i64 k ∧ Hid ((xs.take k).any (outB lo hi) = false)) (fun _ i => xs.length - (intOf i).toNat)
  case atStart => exact ⟨0, Nat.zero_le _, rfl, rfl⟩
  case round =>
    obtain ⟨k, hk, rfl, HN⟩ := hrel
    by_cases hlt : k < xs.length
    · have hltz : (k : Int) < (xs.length : Int) := by omega
      obtain ⟨b, off, es, rfl, hb, ⟨rfl, _⟩, hc⟩ := H.out.at1 rfl hlt
      have d0 : w.cell? ⟨b, off + k, none⟩ = some (.int .i64 xs[k]) := hc _ rfl
      clear hc
      have HT : Hid (outB lo hi xs[k] = true → xs.any (outB lo hi) = true) := fun e => any_hit hlt e
      have HS : Hid (outB lo hi xs[k] = false → (xs.take (k + 1)).any (outB lo hi) = false) := fun e => any_step hlt HN.out e
      generalize xs[k] = y at d0 HT HS
      cases q1 : withinB y lo hi
      · go_wp2_with (go_at_call 43; refine (impl_within _ _ _ _).mono ?_; rintro e w' ⟨rfl, rfl⟩; rw [q1])
        go_ret
        exact ⟨by rw [HT.out (by unfold outB; rw [q1]; rfl)]; rfl, rfl⟩
      · go_wp2_with (go_at_call 43; refine (impl_within _ _ _ _).mono ?_; rintro e w' ⟨rfl, rfl⟩; rw [q1])
        go_round
        case rel => exact ⟨k + 1, by omega, by go_num, HS.out (by unfold outB; rw [q1]; rfl)⟩
        case measure => simp [intOf]; omega
    · have hltz : ¬ (k : Int) < (xs.length : Int) := by omega
      obtain rfl : k = xs.length := by omega
      go_wp2
      go_ret
      have hn := HN.out
      rw [List.take_length] at hn
      exact ⟨ret_bool (by rw [hn]; rfl), rfl⟩

theorem left_ok {l : Int} {n : Nat} (h : ¬ left l n < 0) : left l n = l - (n : Int) ∧ (n : Int) ≤ l := by
  unfold left at *; split at h <;> simp_all <;> omega

theorem allW_mem {xs : List Int} {lo hi : Int} (h : allW xs lo hi = true) : ∀ x ∈ xs, lo ≤ x ∧ x ≤ hi := by
  intro x hx
  unfold allW outB at h
  simp at h
  exact withinB_true.1 (h x hx)

theorem outB_eq (lo hi x : Int) : outB lo hi x = !withinB x lo hi := by
  unfold outB withinB; grind

def sideB (xs : List Int) (s most : Int) : Bool := decide ((xs.length : Int) ≤ most) && allW xs 0 (s - 1) && (((xs.length : Int) == 0) || (xs[xs.length - 1]?.getD 0 != 0))

set_option maxRecDepth 100000 in
set_option maxHeartbeats 4000000 in
theorem impl_validSide (A0 : Option Addr) (c0 : Nat) (a0 : (List Int)) (a1 : Int) (a2 : Int) (w : World) (h0 : Sl eInt w (Old w) A0 c0 a0) (s0 : -1000 ≤ a1 ∧ a1 ≤ 1000) :
    Calls Tryz.prog 119 #[.slice A0 a0.length c0, .int .i64 a1, .int .i64 a2] w fun e w' => e = .returned (.bool (sideB a0 a1 a2)) ∧ w = w' := by
  have l0 := h0.len
  have HH1 := Held.start Nob w
  refine enter (n := 31) Tryz.func119 rfl rfl rfl fun a_2 HE3 => ?_
  refine wp_seq ?_
  refine rg ?_
  refine pl_x HE3 HH1 (wt0 rfl) (x_assign rfl) rfl rfl fun a_4 HE5 => ?_
  refine wpList_nil ?_
  clear a_2 HE3
  refine nrm ?_
  refine wp_seq ?_
  refine rg ?_
  refine pl_x HE5 HH1 (wt0 rfl) (x_move rfl) rfl rfl fun a_6 HE7 => ?_
  refine pl fun K_8 hK9 => ?_
  refine st_call HE7 (wt0 rfl) rfl rfl rfl en_140 rfl rfl (impl_size_Int64 _ _ _ _) fun e w' hr => ?_
  obtain ⟨rfl, rfl⟩ := hr
  refine ⟨_, rfl, fun a_10 HE11 => hK9 _ _ ?_⟩
  refine pl_x HE11 HH1 (wt0 rfl) (x_move rfl) rfl rfl fun a_12 HE13 => ?_
  refine pl_x HE13 HH1 (wt0 rfl) (x_leq rfl rfl) rfl rfl fun a_14 HE15 => ?_
  refine pl_x HE15 HH1 (wt0 rfl) (x_move rfl) rfl rfl fun a_16 HE17 => ?_
  by_cases hc22 : (a0.length : Int) ≤ a2
  · refine pl_x HE17 HH1 (wtT HE17 rfl rfl rfl (decide_eq_true hc22)) (x_move rfl) rfl rfl fun a_18 HE19 => ?_
    refine pl_x HE19 HH1 (wtT HE19 rfl rfl rfl (decide_eq_true hc22)) (x_move rfl) rfl rfl fun a_20 HE21 => ?_
    refine pl_x HE21 HH1 (wtT HE21 rfl rfl rfl (decide_eq_true hc22)) (x_sub rfl rfl (by exact ⟨by omega, by omega⟩)) rfl rfl fun a_22 HE23 => ?_
    refine pl fun K_24 hK25 => ?_
    refine st_call HE23 (wtT HE23 rfl rfl rfl (decide_eq_true hc22)) rfl rfl rfl en_55 rfl rfl (impl_allWithin _ _ a0 0 (a1 - 1) _ (HH1.old h0)) fun e w' hr => ?_
    obtain ⟨rfl, rfl⟩ := hr
    refine ⟨_, rfl, fun a_26 HE27 => hK25 _ _ ?_⟩
    refine pl_x HE27 HH1 (wt0 rfl) (x_pickT rfl (decide_eq_true hc22) rfl) rfl rfl fun a_28 HE29 => ?_
    refine pl_x HE29 HH1 (wt0 rfl) (x_move rfl) rfl rfl fun a_30 HE31 => ?_
    rcases Bool.eq_false_or_eq_true ((allW a0 0 (a1 - 1))) with hc24 | hc24
    · refine pl_x HE31 HH1 (wtT HE31 rfl rfl rfl hc24) (x_move rfl) rfl rfl fun a_32 HE33 => ?_
      refine pl_x HE33 HH1 (wtT HE33 rfl rfl rfl hc24) (x_len Tryz.underlying26 rfl) rfl rfl fun a_34 HE35 => ?_
      refine pl_x HE35 HH1 (wtT HE35 rfl rfl rfl hc24) (x_eql rfl rfl) rfl rfl fun a_36 HE37 => ?_
      refine pl_x HE37 HH1 (wtT HE37 rfl rfl rfl hc24) (x_move rfl) rfl rfl fun a_38 HE39 => ?_
      by_cases hc25 : (a0.length : Int) = 0
      · refine pl_no HE39 (wtF HE39 rfl rfl rfl (beq_t hc25)) rfl rfl fun a_40 HE41 => ?_
        refine pl_no HE41 (wtF HE41 rfl rfl rfl (beq_t hc25)) rfl rfl fun a_42 HE43 => ?_
        refine pl_no HE43 (wtF HE43 rfl rfl rfl (beq_t hc25)) rfl rfl fun a_44 HE45 => ?_
        refine pl_no HE45 (wtF HE45 rfl rfl rfl (beq_t hc25)) rfl rfl fun a_46 HE47 => ?_
        refine pl_no HE47 (wtF HE47 rfl rfl rfl (beq_t hc25)) rfl rfl fun a_48 HE49 => ?_
        refine pl_no HE49 (wtF HE49 rfl rfl rfl (beq_t hc25)) rfl rfl fun a_50 HE51 => ?_
        refine pl_no HE51 (wtF HE51 rfl rfl rfl (beq_t hc25)) rfl rfl fun a_52 HE53 => ?_
        refine pl_x HE53 HH1 (wtT HE53 rfl rfl rfl hc24) (x_pickT rfl (beq_t hc25) rfl) rfl rfl fun a_54 HE55 => ?_
        refine pl_x HE55 HH1 (wt0 rfl) (x_pickT rfl hc24 rfl) rfl rfl fun a_56 HE57 => ?_
        refine pl_x HE57 HH1 (wt0 rfl) (x_assign rfl) rfl rfl fun a_58 HE59 => ?_
        refine wpList_nil ?_
        clear a_4 HE5 a_6 HE7 a_10 HE11 a_12 HE13 a_14 HE15 a_16 HE17 a_18 HE19 a_20 HE21 K_8 hK9 a_22 HE23 a_26 HE27 a_28 HE29 a_30 HE31 a_32 HE33 a_34 HE35 a_36 HE37 a_38 HE39 a_40 HE41 a_42 HE43 a_44 HE45 a_46 HE47 a_48 HE49 a_50 HE51 a_52 HE53 a_54 HE55 a_56 HE57 hK25 K_24
        refine nrm ?_
        refine wp_ret ?_
        refine ret1 HE59 rfl (rv_tmp rfl) ?_
        have hF : (sideB a0 a1 a2) = true := by
          first | rfl | (simp [sideB, hc22, hc24, hc25]; done) | (simp [sideB, hc22, hc24, hc25]; omega) | grind [sideB]
        exact ⟨by first | (rw [hF] <;> rfl) | rfl | (rw [hF]; simp only [Ending.returned.injEq, Value.slice.injEq, true_and, and_true]; first | omega | (simp; done)) | (rw [hF]; simp; omega), rfl⟩
      · refine pl_x HE39 HH1 (wtT HE39 rfl rfl rfl (beq_f hc25)) (x_move rfl) rfl rfl fun a_60 HE61 => ?_
        refine pl_x HE61 HH1 (wtT HE61 rfl rfl rfl (beq_f hc25)) (x_move rfl) rfl rfl fun a_62 HE63 => ?_
        refine pl_x HE63 HH1 (wtT HE63 rfl rfl rfl (beq_f hc25)) (x_len Tryz.underlying26 rfl) rfl rfl fun a_64 HE65 => ?_
        refine pl_x HE65 HH1 (wtT HE65 rfl rfl rfl (beq_f hc25)) (x_sub rfl rfl (by exact ⟨by omega, by omega⟩)) rfl rfl fun a_66 HE67 => ?_
        have ke26 : (a0.length - 1) < a0.length := by omega
        obtain ⟨be26, fe26, ese26, Ae26, Re26, De26⟩ := el_old h0 ke26
        obtain ⟨e26, xe26⟩ : ∃ x_, x_ = a0[(a0.length - 1)] := ⟨_, rfl⟩
        rw [← xe26] at Re26
        have Qe26 := Re26
        obtain ⟨rfl, ie26⟩ := Re26
        have je26 := ie26; unfold I64 at je26
        refine pl_x HE67 HH1 (wtT HE67 rfl rfl rfl (beq_f hc25)) (x_indexAddr ts_26 rfl rfl Ae26 (by omega) ke26) rfl rfl fun a_68 HE69 => ?_
        refine pl_x HE69 HH1 (wtT HE69 rfl rfl rfl (beq_f hc25)) (x_load1 tv_2 rfl (c_old (De26 0 _ rfl))) rfl rfl fun a_70 HE71 => ?_
        refine pl_x HE71 HH1 (wtT HE71 rfl rfl rfl (beq_f hc25)) (x_neq rfl rfl) rfl rfl fun a_72 HE73 => ?_
        refine pl_x HE73 HH1 (wtT HE73 rfl rfl rfl hc24) (x_pickF rfl (beq_f hc25) rfl) rfl rfl fun a_74 HE75 => ?_
        refine pl_x HE75 HH1 (wt0 rfl) (x_pickT rfl hc24 rfl) rfl rfl fun a_76 HE77 => ?_
        refine pl_x HE77 HH1 (wt0 rfl) (x_assign rfl) rfl rfl fun a_78 HE79 => ?_
        refine wpList_nil ?_
        clear a_4 HE5 a_6 HE7 a_10 HE11 a_12 HE13 a_14 HE15 a_16 HE17 a_18 HE19 a_20 HE21 K_8 hK9 a_22 HE23 a_26 HE27 a_28 HE29 a_30 HE31 a_32 HE33 a_34 HE35 a_36 HE37 a_38 HE39 a_60 HE61 a_62 HE63 a_64 HE65 a_66 HE67 a_68 HE69 a_70 HE71 a_72 HE73 a_74 HE75 a_76 HE77 hK25 K_24
        refine nrm ?_
        refine wp_ret ?_
        refine ret1 HE79 rfl (rv_tmp rfl) ?_
        have hF : (sideB a0 a1 a2) = (e26 != 0) := by
          first | rfl | (simp [sideB, hc22, hc24, hc25, xe26]; done) | (simp [sideB, hc22, hc24, hc25, xe26]; omega) | grind [sideB]
        exact ⟨by first | (rw [hF] <;> rfl) | rfl | (rw [hF]; simp only [Ending.returned.injEq, Value.slice.injEq, true_and, and_true]; first | omega | (simp; done)) | (rw [hF]; simp; omega), rfl⟩
    · refine pl_no HE31 (wtF HE31 rfl rfl rfl hc24) rfl rfl fun a_80 HE81 => ?_
      refine pl_no HE81 (wtF HE81 rfl rfl rfl hc24) rfl rfl fun a_82 HE83 => ?_
      refine pl_no HE83 (wtF HE83 rfl rfl rfl hc24) rfl rfl fun a_84 HE85 => ?_
      refine pl_no HE85 (wtF HE85 rfl rfl rfl hc24) rfl rfl fun a_86 HE87 => ?_
      refine pl_no HE87 (wtU HE87 rfl rfl rfl) rfl rfl fun a_88 HE89 => ?_
      refine pl_no HE89 (wtU HE89 rfl rfl rfl) rfl rfl fun a_90 HE91 => ?_
      refine pl_no HE91 (wtU HE91 rfl rfl rfl) rfl rfl fun a_92 HE93 => ?_
      refine pl_no HE93 (wtU HE93 rfl rfl rfl) rfl rfl fun a_94 HE95 => ?_
      refine pl_no HE95 (wtU HE95 rfl rfl rfl) rfl rfl fun a_96 HE97 => ?_
      refine pl_no HE97 (wtU HE97 rfl rfl rfl) rfl rfl fun a_98 HE99 => ?_
      refine pl_no HE99 (wtU HE99 rfl rfl rfl) rfl rfl fun a_100 HE101 => ?_
      refine pl_no HE101 (wtF HE101 rfl rfl rfl hc24) rfl rfl fun a_102 HE103 => ?_
      refine pl_x HE103 HH1 (wt0 rfl) (x_pickF rfl hc24 rfl) rfl rfl fun a_104 HE105 => ?_
      refine pl_x HE105 HH1 (wt0 rfl) (x_assign rfl) rfl rfl fun a_106 HE107 => ?_
      refine wpList_nil ?_
      clear a_4 HE5 a_6 HE7 a_10 HE11 a_12 HE13 a_14 HE15 a_16 HE17 a_18 HE19 a_20 HE21 K_8 hK9 a_22 HE23 a_26 HE27 a_28 HE29 a_30 HE31 a_80 HE81 a_82 HE83 a_84 HE85 a_86 HE87 a_88 HE89 a_90 HE91 a_92 HE93 a_94 HE95 a_96 HE97 a_98 HE99 a_100 HE101 a_102 HE103 a_104 HE105 hK25 K_24
      refine nrm ?_
      refine wp_ret ?_
      refine ret1 HE107 rfl (rv_tmp rfl) ?_
      have hF : (sideB a0 a1 a2) = false := by
        first | rfl | (simp [sideB, hc22, hc24]; done) | (simp [sideB, hc22, hc24]; omega) | grind [sideB]
      exact ⟨by first | (rw [hF] <;> rfl) | rfl | (rw [hF]; simp only [Ending.returned.injEq, Value.slice.injEq, true_and, and_true]; first | omega | (simp; done)) | (rw [hF]; simp; omega), rfl⟩
  · refine pl_no HE17 (wtF HE17 rfl rfl rfl (decide_eq_false hc22)) rfl rfl fun a_108 HE109 => ?_
    refine pl_no HE109 (wtF HE109 rfl rfl rfl (decide_eq_false hc22)) rfl rfl fun a_110 HE111 => ?_
    refine pl_no HE111 (wtF HE111 rfl rfl rfl (decide_eq_false hc22)) rfl rfl fun a_112 HE113 => ?_
    refine pl_no HE113 (wtF HE113 rfl rfl rfl (decide_eq_false hc22)) rfl rfl fun a_114 HE115 => ?_
    refine pl_x HE115 HH1 (wt0 rfl) (x_pickF rfl (decide_eq_false hc22) rfl) rfl rfl fun a_116 HE117 => ?_
    refine pl_x HE117 HH1 (wt0 rfl) (x_move rfl) rfl rfl fun a_118 HE119 => ?_
    refine pl_no HE119 (wtF HE119 rfl rfl rfl rfl) rfl rfl fun a_120 HE121 => ?_
    refine pl_no HE121 (wtF HE121 rfl rfl rfl rfl) rfl rfl fun a_122 HE123 => ?_
    refine pl_no HE123 (wtF HE123 rfl rfl rfl rfl) rfl rfl fun a_124 HE125 => ?_
    refine pl_no HE125 (wtF HE125 rfl rfl rfl rfl) rfl rfl fun a_126 HE127 => ?_
    refine pl_no HE127 (wtU HE127 rfl rfl rfl) rfl rfl fun a_128 HE129 => ?_
    refine pl_no HE129 (wtU HE129 rfl rfl rfl) rfl rfl fun a_130 HE131 => ?_
    refine pl_no HE131 (wtU HE131 rfl rfl rfl) rfl rfl fun a_132 HE133 => ?_
    refine pl_no HE133 (wtU HE133 rfl rfl rfl) rfl rfl fun a_134 HE135 => ?_
    refine pl_no HE135 (wtU HE135 rfl rfl rfl) rfl rfl fun a_136 HE137 => ?_
    refine pl_no HE137 (wtU HE137 rfl rfl rfl) rfl rfl fun a_138 HE139 => ?_
    refine pl_no HE139 (wtU HE139 rfl rfl rfl) rfl rfl fun a_140 HE141 => ?_
    refine pl_no HE141 (wtF HE141 rfl rfl rfl rfl) rfl rfl fun a_142 HE143 => ?_
    refine pl_x HE143 HH1 (wt0 rfl) (x_pickF rfl rfl rfl) rfl rfl fun a_144 HE145 => ?_
    refine pl_x HE145 HH1 (wt0 rfl) (x_assign rfl) rfl rfl fun a_146 HE147 => ?_
    refine wpList_nil ?_
    clear a_4 HE5 a_6 HE7 a_10 HE11 a_12 HE13 a_14 HE15 a_16 HE17 a_108 HE109 a_110 HE111 a_112 HE113 a_114 HE115 a_116 HE117 a_118 HE119 a_120 HE121 a_122 HE123 a_124 HE125 a_126 HE127 a_128 HE129 a_130 HE131 a_132 HE133 a_134 HE135 a_136 HE137 a_138 HE139 a_140 HE141 a_142 HE143 a_144 HE145 hK9 K_8
    refine nrm ?_
    refine wp_ret ?_
    refine ret1 HE147 rfl (rv_tmp rfl) ?_
    have hF : (sideB a0 a1 a2) = false := by
      first | rfl | (simp [sideB, hc22]; done) | (simp [sideB, hc22]; omega) | grind [sideB]
    exact ⟨by first | (rw [hF] <;> rfl) | rfl | (rw [hF]; simp only [Ending.returned.injEq, Value.slice.injEq, true_and, and_true]; first | omega | (simp; done)) | (rw [hF]; simp; omega), rfl⟩

def eBldT : TypeId := 5

abbrev rBld (w : World) (b : Nat) (S : Nat → Prop) (l : List UInt8) : Res := rBldT 126 5 w.heap.size b S l

/-- The library's table that the decimal forms are made with. -/
def Glob (w : World) : Prop := Lib.TabIs Tryz.prog w "internal/strconv.uint64pow10" .u64 Lib.pow10Tab

theorem globNum : Tryz.prog.globalNamed "internal/strconv.uint64pow10" = some 3 := by kernel_rfl

theorem Held.glob {w0 w : World} {rs : List Res} (h : Held Nob w0 rs w) (hG : Glob w0) : Glob w := tab_below globNum hG h.below

theorem grow_below (w : World) (k : Nat) (os : Array Obj) : Below w.heap.size w (Go.Sort.grow (w.drewN k) os) :=
  ⟨rfl, rfl, rfl, by show w.heap.size ≤ (w.heap ++ os).size; rw [Array.size_append]; omega, fun b hb => Go.Sort.heap_grow_old (w.drewN k) os hb⟩

def shelf_M173_ren : Go.Shelf.Ren := ⟨fun | 173 => 94 | 246 => 113 | 283 => 134 | 284 => 135 | 285 => 136 | 286 => 137 | 129 => 149 | 317 => 148 | 318 => 150 | 319 => 151 | 320 => 152 | 337 => 156 | 338 => 157 | n => n, fun | 2 => 2 | 3 => 3 | 9 => 9 | 4 => 4 | 171 => 164 | 0 => 0 | 53 => 138 | 37 => 40 | 5 => 5 | 173 => 167 | 212 => 180 | 51 => 154 | 20 => 20 | 213 => 181 | 46 => 136 | 232 => 190 | 233 => 191 | n => n, fun | 17 => 3 | 18 => 6 | 19 => 7 | n => n⟩

theorem shelf_M173 : Go.Proofs.LaysM.n173 Tryz.prog shelf_M173_ren := {
  mixed := by kernel_rfl
  f129 := Tryz.func149.trans (congrArg some (by kernel_rfl))
  f173 := Tryz.func94.trans (congrArg some (by kernel_rfl))
  f246 := Tryz.func113.trans (congrArg some (by kernel_rfl))
  f283 := Tryz.func134.trans (congrArg some (by kernel_rfl))
  f284 := Tryz.func135.trans (congrArg some (by kernel_rfl))
  f285 := Tryz.func136.trans (congrArg some (by kernel_rfl))
  f286 := Tryz.func137.trans (congrArg some (by kernel_rfl))
  f317 := Tryz.func148.trans (congrArg some (by kernel_rfl))
  f318 := Tryz.func150.trans (congrArg some (by kernel_rfl))
  f319 := Tryz.func151.trans (congrArg some (by kernel_rfl))
  f320 := Tryz.func152.trans (congrArg some (by kernel_rfl))
  f337 := Tryz.func156.trans (congrArg some (by kernel_rfl))
  f338 := Tryz.func157.trans (congrArg some (by kernel_rfl))
  t0 := Tryz.underlying0
  a0 := Tryz.isAgg0
  z0 := Tryz.sizeOf0
  v0 := Tryz.zeroValue0
  t2 := Tryz.underlying2
  a2 := Tryz.isAgg2
  z2 := Tryz.sizeOf2
  v2 := Tryz.zeroValue2
  t3 := Tryz.underlying3
  a3 := Tryz.isAgg3
  z3 := Tryz.sizeOf3
  v3 := Tryz.zeroValue3
  t4 := Tryz.underlying4
  a4 := Tryz.isAgg4
  z4 := Tryz.sizeOf4
  v4 := Tryz.zeroValue4
  t5 := Tryz.underlying5
  a5 := Tryz.isAgg5
  z5 := Tryz.sizeOf5
  v5 := Tryz.zeroValue5
  t9 := Tryz.underlying9
  a9 := Tryz.isAgg9
  z9 := Tryz.sizeOf9
  v9 := Tryz.zeroValue9
  t20 := Tryz.underlying20
  a20 := Tryz.isAgg20
  z20 := Tryz.sizeOf20
  v20 := Tryz.zeroValue20
  t37 := Tryz.underlying40
  a37 := Tryz.isAgg40
  z37 := Tryz.sizeOf40
  v37 := Tryz.zeroValue40
  t46 := Tryz.underlying136
  a46 := Tryz.isAgg136
  z46 := Tryz.sizeOf136
  v46 := Tryz.zeroValue136
  t51 := Tryz.underlying154
  a51 := Tryz.isAgg154
  z51 := Tryz.sizeOf154
  v51 := Tryz.zeroValue154
  t53 := Tryz.underlying138
  a53 := Tryz.isAgg138
  z53 := Tryz.sizeOf138
  v53 := Tryz.zeroValue138
  t171 := Tryz.underlying164
  a171 := Tryz.isAgg164
  z171 := Tryz.sizeOf164
  v171 := Tryz.zeroValue164
  t173 := Tryz.underlying167
  a173 := Tryz.isAgg167
  z173 := Tryz.sizeOf167
  v173 := Tryz.zeroValue167
  t212 := Tryz.underlying180
  a212 := Tryz.isAgg180
  z212 := Tryz.sizeOf180
  v212 := Tryz.zeroValue180
  t213 := Tryz.underlying181
  a213 := Tryz.isAgg181
  z213 := Tryz.sizeOf181
  t232 := Tryz.underlying190
  a232 := Tryz.isAgg190
  z232 := Tryz.sizeOf190
  v232 := Tryz.zeroValue190
  t233 := Tryz.underlying191
  a233 := Tryz.isAgg191
  z233 := Tryz.sizeOf191
  v233 := Tryz.zeroValue191
  g17 := by kernel_rfl
  g18 := by kernel_rfl
  g19 := by kernel_rfl
  i0 := by kernel_rfl
  i2 := by kernel_rfl
  i3 := by kernel_rfl
  i4 := by kernel_rfl
  i5 := by kernel_rfl
  i9 := by kernel_rfl
  i20 := by kernel_rfl
  i37 := by kernel_rfl
  i46 := by kernel_rfl
  i51 := by kernel_rfl
  i53 := by kernel_rfl
  i171 := by kernel_rfl
  i173 := by kernel_rfl
  i212 := by kernel_rfl
  i232 := by kernel_rfl
  i233 := by kernel_rfl
  m17 := by kernel_rfl
  m18 := by kernel_rfl
  m19 := by kernel_rfl }

def shelf_168_ren : Go.Shelf.Ren := ⟨fun | 0 => 0 | 1 => 1 | 2 => 2 | 101 => 73 | 129 => 149 | 138 => 123 | 143 => 124 | 145 => 32 | 146 => 81 | 156 => 102 | 165 => 125 | 166 => 126 | 168 => 98 | 169 => 99 | 171 => 133 | 173 => 94 | 174 => 71 | 195 => 143 | 197 => 144 | 205 => 132 | 206 => 114 | 208 => 95 | 217 => 104 | 218 => 145 | 219 => 91 | 220 => 70 | 221 => 101 | 224 => 106 | 225 => 105 | 240 => 120 | 241 => 146 | 242 => 121 | 243 => 147 | 245 => 93 | 246 => 113 | 247 => 92 | 260 => 154 | 266 => 127 | 267 => 107 | 268 => 122 | 276 => 141 | 277 => 155 | 278 => 142 | 279 => 109 | 280 => 110 | 281 => 111 | 282 => 112 | 283 => 134 | 284 => 135 | 285 => 136 | 286 => 137 | 287 => 108 | 314 => 128 | 316 => 131 | 317 => 148 | 318 => 150 | 319 => 151 | 320 => 152 | 321 => 129 | 322 => 130 | 337 => 156 | 338 => 157 | 347 => 158 | 348 => 159 | 349 => 160 | 350 => 161 | 351 => 162 | 352 => 163 | 353 => 164 | 354 => 165 | 355 => 166 | 356 => 167 | 357 => 168 | 358 => 169 | 359 => 170 | 360 => 171 | 361 => 172 | 362 => 173 | 363 => 176 | 364 => 174 | 365 => 175 | 366 => 177 | 367 => 187 | n => n, fun | 0 => 0 | 1 => 1 | 2 => 2 | 3 => 3 | 4 => 4 | 5 => 5 | 6 => 6 | 7 => 7 | 8 => 8 | 9 => 9 | 10 => 10 | 11 => 11 | 12 => 12 | 13 => 13 | 14 => 14 | 15 => 15 | 16 => 16 | 17 => 17 | 18 => 18 | 19 => 19 | 20 => 20 | 21 => 21 | 22 => 144 | 23 => 102 | 27 => 120 | 31 => 58 | 37 => 40 | 41 => 93 | 46 => 136 | 47 => 183 | 51 => 154 | 52 => 185 | 53 => 138 | 54 => 165 | 55 => 134 | 59 => 68 | 60 => 69 | 61 => 109 | 67 => 132 | 69 => 159 | 70 => 124 | 71 => 125 | 72 => 126 | 73 => 152 | 74 => 97 | 75 => 98 | 76 => 127 | 77 => 153 | 79 => 128 | 80 => 129 | 81 => 197 | 83 => 163 | 84 => 122 | 85 => 99 | 86 => 100 | 103 => 173 | 104 => 158 | 105 => 174 | 106 => 175 | 108 => 162 | 111 => 182 | 113 => 131 | 114 => 135 | 119 => 186 | 126 => 149 | 127 => 150 | 128 => 121 | 137 => 187 | 138 => 188 | 139 => 189 | 143 => 176 | 144 => 177 | 145 => 178 | 146 => 155 | 150 => 151 | 151 => 156 | 164 => 171 | 165 => 172 | 166 => 184 | 167 => 137 | 168 => 141 | 169 => 142 | 170 => 143 | 171 => 164 | 172 => 166 | 173 => 167 | 174 => 168 | 175 => 139 | 176 => 140 | 209 => 160 | 210 => 161 | 211 => 179 | 212 => 180 | 213 => 181 | 214 => 157 | 232 => 190 | 233 => 191 | 238 => 192 | 239 => 193 | 240 => 194 | 241 => 195 | 242 => 196 | 243 => 198 | 244 => 199 | 245 => 200 | 246 => 201 | 247 => 202 | 248 => 203 | 249 => 204 | n => n, fun | 1 => 0 | 3 => 4 | 4 => 5 | 15 => 1 | 16 => 2 | 17 => 3 | 18 => 6 | 19 => 7 | n => n⟩

theorem shelf_168 : Go.Proofs.Lays.n168 Tryz.prog shelf_168_ren := {
  mixed := by kernel_rfl
  f168 := Tryz.func98.trans (congrArg some (by kernel_rfl))
  f240 := Tryz.func120.trans (congrArg some (by kernel_rfl))
  f242 := Tryz.func121.trans (congrArg some (by kernel_rfl))
  f276 := Tryz.func141.trans (congrArg some (by kernel_rfl))
  f278 := Tryz.func142.trans (congrArg some (by kernel_rfl))
  t0 := Tryz.underlying0
  a0 := Tryz.isAgg0
  z0 := Tryz.sizeOf0
  v0 := Tryz.zeroValue0
  t3 := Tryz.underlying3
  a3 := Tryz.isAgg3
  z3 := Tryz.sizeOf3
  v3 := Tryz.zeroValue3
  t4 := Tryz.underlying4
  a4 := Tryz.isAgg4
  z4 := Tryz.sizeOf4
  v4 := Tryz.zeroValue4
  t5 := Tryz.underlying5
  a5 := Tryz.isAgg5
  z5 := Tryz.sizeOf5
  v5 := Tryz.zeroValue5
  t9 := Tryz.underlying9
  a9 := Tryz.isAgg9
  z9 := Tryz.sizeOf9
  v9 := Tryz.zeroValue9
  t20 := Tryz.underlying20
  a20 := Tryz.isAgg20
  z20 := Tryz.sizeOf20
  v20 := Tryz.zeroValue20
  t21 := Tryz.underlying21
  a21 := Tryz.isAgg21
  z21 := Tryz.sizeOf21
  v21 := Tryz.zeroValue21
  t37 := Tryz.underlying40
  a37 := Tryz.isAgg40
  z37 := Tryz.sizeOf40
  v37 := Tryz.zeroValue40
  t46 := Tryz.underlying136
  a46 := Tryz.isAgg136
  z46 := Tryz.sizeOf136
  v46 := Tryz.zeroValue136
  t51 := Tryz.underlying154
  a51 := Tryz.isAgg154
  z51 := Tryz.sizeOf154
  v51 := Tryz.zeroValue154
  t70 := Tryz.underlying124
  a70 := Tryz.isAgg124
  z70 := Tryz.sizeOf124
  v70 := Tryz.zeroValue124
  t72 := Tryz.underlying126
  a72 := Tryz.isAgg126
  z72 := Tryz.sizeOf126
  v72 := Tryz.zeroValue126
  t75 := Tryz.underlying98
  a75 := Tryz.isAgg98
  z75 := Tryz.sizeOf98
  v75 := Tryz.zeroValue98
  t164 := Tryz.underlying171
  a164 := Tryz.isAgg171
  z164 := Tryz.sizeOf171
  v164 := Tryz.zeroValue171 }

theorem shelf_X_Builder_Extra_168 : Builder.Extra Tryz.prog shelf_168_ren where
  sizeBuilder := by kernel_rfl
  liesBuilder := by kernel_rfl
  t5 := Tryz.underlying5
  a5 := Tryz.isAgg5
  z5 := Tryz.sizeOf5
  v5 := Tryz.zeroValue5
  infoByte := by kernel_rfl
  cellsByte := by kernel_rfl
  sizeByte := by kernel_rfl
  neB5 := by decide

def shelf_169_ren : Go.Shelf.Ren := ⟨fun | 169 => 99 | n => n, fun | 70 => 124 | 9 => 9 | 0 => 0 | 72 => 126 | 37 => 40 | 127 => 150 | 3 => 3 | 5 => 5 | n => n, fun | n => n⟩

theorem shelf_169 : Go.Proofs.Lays.n169 Tryz.prog shelf_169_ren := {
  mixed := by kernel_rfl
  f169 := Tryz.func99.trans (congrArg some (by kernel_rfl))
  t0 := Tryz.underlying0
  a0 := Tryz.isAgg0
  z0 := Tryz.sizeOf0
  v0 := Tryz.zeroValue0
  t3 := Tryz.underlying3
  a3 := Tryz.isAgg3
  z3 := Tryz.sizeOf3
  v3 := Tryz.zeroValue3
  t9 := Tryz.underlying9
  a9 := Tryz.isAgg9
  z9 := Tryz.sizeOf9
  v9 := Tryz.zeroValue9
  t37 := Tryz.underlying40
  a37 := Tryz.isAgg40
  z37 := Tryz.sizeOf40
  v37 := Tryz.zeroValue40
  t70 := Tryz.underlying124
  a70 := Tryz.isAgg124
  z70 := Tryz.sizeOf124
  v70 := Tryz.zeroValue124
  t72 := Tryz.underlying126
  a72 := Tryz.isAgg126
  z72 := Tryz.sizeOf126
  v72 := Tryz.zeroValue126
  t127 := Tryz.underlying150
  a127 := Tryz.isAgg150
  z127 := Tryz.sizeOf150
  v127 := Tryz.zeroValue150 }

theorem shelf_X_Builder_Extra_169 : Builder.Extra Tryz.prog shelf_169_ren where
  sizeBuilder := by kernel_rfl
  liesBuilder := by kernel_rfl
  t5 := Tryz.underlying5
  a5 := Tryz.isAgg5
  z5 := Tryz.sizeOf5
  v5 := Tryz.zeroValue5
  infoByte := by kernel_rfl
  cellsByte := by kernel_rfl
  sizeByte := by kernel_rfl
  neB5 := by decide

theorem FormatInt_10 (a0 a1 : Int) (w : World) (hG : Glob w) (s0 : -9223372036854775808 ≤ a0 ∧ a0 ≤ 9223372036854775807) (s1 : a1 = 10) :
    Calls Tryz.prog 94 #[.int .i64 a0, .int .i64 a1] w fun e w' => e = .returned (.string (bs (Go.Lib.itoa a0))) ∧ Below w.heap.size w w' := by
  subst s1
  refine (show Calls Tryz.prog 94 #[.int .i64 a0, .int .i64 10] w _ from Any.strconv_FormatInt_10 shelf_M173 a0 s0.1 s0.2 w hG).mono ?_
  rintro e w' ⟨rfl, k, os, rfl⟩
  exact ⟨rfl, grow_below _ _ _⟩

theorem Builder_WriteRune {w0 w : World} {b : Nat} {S : Nat → Prop} {l : List UInt8} (a1 : Int) (h : Held Nob w0 [rBld w0 b S l] w) (hr : 0 ≤ a1 ∧ a1 < 128) (hl : l.length ≤ 1000000000) :
    Calls Tryz.prog 98 #[.pointer (some ⟨b, 0, none⟩), .int .i32 a1] w fun e w' => (∃ v, e = .returned v) ∧ ∃ S', Held Nob w0 [rBld w0 b S' (l ++ [UInt8.ofNat a1.toNat])] w' := by
  refine (show Calls Tryz.prog 98 #[.pointer (some ⟨b, 0, none⟩), .int .i32 a1] w _ from Any.Builder_WriteRune_k shelf_168 shelf_X_Builder_Extra_168 w0.heap.size b (Lib.byteCells l) a1 (by omega) (by omega) w h.isBld (by rw [byteCells_len]; omega) h.size).mono ?_
  rintro e w' ⟨rfl, h1, h2, _⟩
  refine ⟨⟨_, rfl⟩, h.bldCall h2 ?_⟩
  rw [byteCells_app, ← runeCells_ascii hr.1 hr.2]
  exact .inr h1

theorem Builder_String {w0 w : World} {b : Nat} {S : Nat → Prop} {l : List UInt8} (h : Held Nob w0 [rBld w0 b S l] w) (hl : l.length ≤ 1000000000) :
    Calls Tryz.prog 99 #[.pointer (some ⟨b, 0, none⟩)] w fun e w' => e = .returned (.string (bs l)) ∧ ∃ S', Held Nob w0 [rBld w0 b S' l] w' := by
  refine (show Calls Tryz.prog 99 #[.pointer (some ⟨b, 0, none⟩)] w _ from Any.Builder_String_any_k shelf_169 shelf_X_Builder_Extra_169 w0.heap.size b l w h.isBld h.size).mono ?_
  rintro e w' ⟨rfl, h1, h2, _⟩
  exact ⟨rfl, h.bldCall h2 h1⟩

theorem nDigits_le (k : Nat) : ∀ n : Nat, n < 10 ^ (k + 1) → Go.Lib.nDigits n ≤ k + 1 := by
  induction k with
  | zero => intro n h; rw [Go.Lib.nDigits_small (by simpa using h)]; omega
  | succ k ih =>
    intro n h
    by_cases h1 : n < 10
    · rw [Go.Lib.nDigits_small h1]; omega
    · rw [Go.Lib.nDigits_big h1]; have := ih (n / 10) (by rw [Nat.pow_succ] at h; omega); omega

theorem itoa_len {n : Int} (h : -9223372036854775808 ≤ n ∧ n ≤ 9223372036854775807) : 1 ≤ (Go.Lib.itoa n).length ∧ (Go.Lib.itoa n).length ≤ 20 := by
  unfold Go.Lib.itoa
  split
  · have h1 := nDigits_le 18 n.natAbs (by omega)
    have h2 := Go.Lib.nDigits_pos n.natAbs
    rw [List.length_cons, Go.Lib.decDigits_length]; omega
  · have h1 := nDigits_le 18 n.toNat (by omega)
    have h2 := Go.Lib.nDigits_pos n.toNat
    rw [Go.Lib.decDigits_length]; omega

theorem drop_revI {α : Type} {l : List α} {k : Nat} (h0 : 0 < k) (h1 : k ≤ l.length) : (l.drop (k - 1)).reverse = (l.drop k).reverse ++ [l[k - 1]] := by
  rw [List.drop_eq_getElem_cons (by omega : k - 1 < l.length), List.reverse_cons, show k - 1 + 1 = k from by omega]

theorem Sl.i64 {w : World} {S : Nat → Prop} {A : Option Addr} {c : Nat} {xs : List Int} (h : Sl eInt w S A c xs) : ∀ x ∈ xs, -9223372036854775808 ≤ x ∧ x ≤ 9223372036854775807 := by
  intro x hx
  obtain ⟨i, hi⟩ := List.mem_iff_getElem?.1 hx
  obtain ⟨b, off, _, _, hc⟩ := h.2.2 (fun e => by rw [e] at hx; cases hx)
  obtain ⟨es, ⟨_, h1⟩, _⟩ := hc i x hi
  exact h1

/-- Letters as digits. -/
def digT (l : List Int) : List UInt8 := l.map fun x => UInt8.ofNat (48 + x).toNat

theorem digT_len (l : List Int) : (digT l).length = l.length := by simp [digT]

set_option maxRecDepth 100000 in
set_option maxHeartbeats 4000000 in
theorem impl_Decimal (a0 : Int) (w : World) (hG : Glob w) (s0 : -9223372036854775808 ≤ a0 ∧ a0 ≤ 9223372036854775807) :
    Calls Tryz.prog 72 #[.int .i64 a0] w fun e w' => e = .returned (.string (bs (Go.Lib.itoa a0))) ∧ Below w.heap.size w w' := by
  have HH1 := Held.start Nob w
  refine enter (n := 5) Tryz.func72 rfl rfl rfl fun a_2 HE3 => ?_
  refine wp_seq ?_
  refine rg ?_
  refine pl_x HE3 HH1 (wt0 rfl) (x_assign rfl) rfl rfl fun a_4 HE5 => ?_
  refine wpList_nil ?_
  clear a_2 HE3
  refine nrm ?_
  refine wp_seq ?_
  refine rg ?_
  refine pl_x HE5 HH1 (wt0 rfl) (x_move rfl) rfl rfl fun a_6 HE7 => ?_
  refine pl fun K_8 hK9 => ?_
  refine st_call HE7 (wt0 rfl) rfl rfl rfl en_94 rfl rfl (FormatInt_10 a0 10 _ (HH1.glob hG) (by omega) (by rfl)) fun e w' hr => ?_
  have hAr21_0 := itoa_len (n := a0) (by omega)
  obtain ⟨rfl, hbr21⟩ := hr
  have HH10 := HH1.on hbr21
  refine ⟨_, rfl, fun a_11 HE12 => hK9 _ _ ?_⟩
  refine pl_x HE12 HH10 (wt0 rfl) (x_assign rfl) rfl rfl fun a_13 HE14 => ?_
  refine wpList_nil ?_
  clear a_4 HE5 HH1 a_6 HE7 a_11 HE12 hK9 K_8
  refine nrm ?_
  refine wp_ret ?_
  refine ret1 HE14 rfl (rv_tmp rfl) ?_
  have hF : (Go.Lib.itoa a0) = (Go.Lib.itoa a0) := by
    first | rfl | (simp [Go.Lib.itoa]; done) | (simp [Go.Lib.itoa]; omega) | grind [Go.Lib.itoa]
  exact ⟨by first | (rw [hF] <;> rfl) | rfl | (rw [hF]; simp only [Ending.returned.injEq, Value.slice.injEq, true_and, and_true]; first | omega | (simp; done)) | (rw [hF]; simp; omega), HH10.below⟩

set_option maxRecDepth 100000 in
set_option maxHeartbeats 4000000 in
theorem impl_digitsText (A0 : Option Addr) (c0 : Nat) (a0 : (List Int)) (w : World) (h0 : Sl eInt w (Old w) A0 c0 a0) (s0 : ∀ x ∈ a0, 0 ≤ x ∧ x ≤ 9) (s1 : a0.length ≤ 1000000) :
    Calls Tryz.prog 76 #[.slice A0 a0.length c0] w fun e w' => e = .returned (.string (bs (digT a0))) ∧ Below w.heap.size w w' := by
  have l0 := h0.len
  have HH1 := Held.start Nob w
  refine enter (n := 18) Tryz.func76 rfl rfl rfl fun a_2 HE3 => ?_
  refine wp_seq ?_
  refine rg ?_
  refine pl_x HE3 HH1 (wt0 rfl) (x_assign rfl) rfl rfl fun a_4 HE5 => ?_
  refine wpList_nil ?_
  clear a_2 HE3
  refine nrm ?_
  refine wp_seq ?_
  refine rg ?_
  refine pl fun K_6 hK7 => ?_
  refine st_alloc HE5 HH1 tv_126 (wt0 rfl) rfl fun q21 a_8 w' HE9 HH10 => hK7 _ _ ?_
  refine wpList_nil ?_
  clear a_4 HE5 HH1 hK7 K_6
  refine nrm ?_
  refine wp_seq ?_
  refine wp_seq ?_
  refine rg ?_
  refine pl_x HE9 HH10 (wt0 rfl) (x_move rfl) rfl rfl fun a_11 HE12 => ?_
  refine pl_x HE12 HH10 (wt0 rfl) (x_len Tryz.underlying26 rfl) rfl rfl fun a_13 HE14 => ?_
  refine pl_x HE14 HH10 (wt0 rfl) (x_move rfl) rfl rfl fun a_15 HE16 => ?_
  refine wpList_nil ?_
  clear a_8 HE9 a_11 HE12 a_13 HE14
  refine nrm ?_
  refine wp_block ?_
  obtain ⟨Sr22, HH17⟩ := HH10.toBld (e := eBldT)
  have HH18 : Held Nob w [rBld w q21 Sr22 []] _ := HH17
  refine lp (fun m a w' => ∃ (k : Nat) (S_b3 : Nat → Prop), m = a0.length - k ∧ Env 18 [(8, .int .i64 (k : Int)), (3, .pointer (some ⟨q21, 0, none⟩)), (6, .slice A0 (a0.length) c0), (7, .int .i64 ((a0.length : Int)))] a ∧ Held Nob w [rBld w q21 S_b3 (digT (a0.take k))] w' ∧ (k ≤ a0.length)) (a0.length - (0)) ?_ ?_
  · have E23 : digT (a0.take 0) = [] := by
      first | rfl | simp
    exact ⟨0, Sr22, rfl, HE16.sub ⟨(lkI rfl (by first | rfl | omega | (simp []; done))), rfl, rfl, rfl, trivial⟩, ((HH18.sel [0] (by decide) rfl).to (by first | rfl | (rw [E23]; done) | (rw [E23]; rfl) | (simp only [E23]; done) | (simp only [E23]; rfl) | (rw [E23]; simp only [List.length_set]; done))), (by first | omega | assumption | (simp; done) | simp_all)⟩
  · rintro m a_19 w' ⟨k, S_b3, rfl, HE20, HH21, p24_0⟩
    have ol : (digT (a0.take k)).length ≤ 1000000 := by rw [digT_len, List.length_take]; omega
    refine wp_seq ?_
    refine rg ?_
    refine pl_x HE20 HH21 (wt0 rfl) (x_lss rfl rfl) rfl rfl fun a_22 HE23 => ?_
    refine wpList_nil ?_
    clear HH10 HH17 a_15 HE16 HH18 a_19 HE20
    refine nrm ?_
    refine wp_seq ?_
    refine cnd_d HE23 rfl (fun hc25 => ?_) (fun hc25 => ?_)
    · refine wp_skip ?_
      refine nrm ?_
      refine wp_seq ?_
      refine wp_block ?_
      refine wp_seq ?_
      refine rg ?_
      have ke26 : k < a0.length := by omega
      obtain ⟨be26, fe26, ese26, Ae26, Re26, De26⟩ := el_old h0 ke26
      obtain ⟨e26, xe26⟩ : ∃ x_, x_ = a0[k] := ⟨_, rfl⟩
      rw [← xe26] at Re26
      have Qe26 := Re26
      obtain ⟨rfl, ie26⟩ := Re26
      have je26 := ie26; unfold I64 at je26
      have be26 := s0 e26 (by rw [xe26]; exact List.getElem_mem _)
      refine pl_x HE23 HH21 (wt0 rfl) (x_indexAddr ts_26 rfl rfl Ae26 rfl ke26) rfl rfl fun a_24 HE25 => ?_
      refine pl_x HE25 HH21 (wt0 rfl) (x_load1 tv_2 rfl (c_old (De26 0 _ rfl))) rfl rfl fun a_26 HE27 => ?_
      refine pl_x HE27 HH21 (wt0 rfl) (x_assign rfl) rfl rfl fun a_28 HE29 => ?_
      refine wpList_nil ?_
      clear a_22 HE23 a_24 HE25 a_26 HE27
      refine nrm ?_
      refine rg ?_
      refine pl_x HE29 HH21 (wt0 rfl) (x_move rfl) rfl rfl fun a_30 HE31 => ?_
      refine pl_x HE31 HH21 (wt0 rfl) (x_conv32 Tryz.underlying2 Tryz.underlying21 rfl (by constructor <;> omega)) rfl rfl fun a_32 HE33 => ?_
      refine pl_x HE33 HH21 (wt0 rfl) (x_add32 rfl rfl (by constructor <;> omega)) rfl rfl fun a_34 HE35 => ?_
      refine pl fun K_36 hK37 => ?_
      refine st_call HE35 (wt0 rfl) rfl rfl rfl en_98 rfl rfl (Builder_WriteRune (48 + e26) HH21 (by constructor <;> omega) (by first | omega | (simp only [List.length_append, List.length_cons, List.length_nil]; omega) | (simp; omega))) fun e w' hr => ?_
      obtain ⟨⟨_, rfl⟩, Sr27_, HH21⟩ := hr
      refine ⟨_, rfl, fun a_38 HE39 => hK37 _ _ ?_⟩
      refine wpList_nil ?_
      clear a_28 HE29 a_30 HE31 a_32 HE33 a_34 HE35 hK37 K_36
      refine blk_n ?_
      refine nrm ?_
      refine rg ?_
      refine pl_x HE39 HH21 (wt0 rfl) (x_add rfl rfl (by exact ⟨by omega, by omega⟩)) rfl rfl fun a_40 HE41 => ?_
      refine pl_x HE41 HH21 (wt0 rfl) (x_move rfl) rfl rfl fun a_42 HE43 => ?_
      refine wpList_nil ?_
      clear a_38 HE39 a_40 HE41
      have E28 : digT (a0.take (k + 1)) = (digT (a0.take k) ++ [UInt8.ofNat (48 + e26).toNat]) := by
        unfold digT; rw [List.take_succ_eq_append_getElem (by omega), List.map_append, ← xe26]; rfl
      exact nrm ⟨a0.length - (k + 1), (by omega), k + 1, Sr27_, rfl, HE43.sub ⟨(lkI rfl (by first | rfl | omega | (simp [p24_0, hc25, xe26]; done))), rfl, rfl, rfl, trivial⟩, ((HH21.sel [0] (by decide) rfl).to (by first | rfl | (rw [E28]; done) | (rw [E28]; rfl) | (simp only [E28]; done) | (simp only [E28]; rfl) | (rw [E28]; simp only [List.length_set]; done))), (by first | omega | assumption | (simp; done) | simp_all)⟩
    · refine wp_exit ?_
      refine (thn_exit (thn_exit (blk_hit ?_)))
      refine nrm ?_
      refine wp_seq ?_
      refine rg ?_
      refine pl fun K_44 hK45 => ?_
      refine st_call HE23 (wt0 rfl) rfl rfl rfl en_99 rfl rfl (Builder_String HH21 (by first | omega | (simp only [List.length_append, List.length_cons, List.length_nil]; omega) | (simp; omega))) fun e w' hr => ?_
      obtain ⟨rfl, Sr29_, HH46⟩ := hr
      refine ⟨_, rfl, fun a_47 HE48 => hK45 _ _ ?_⟩
      refine pl_x HE48 HH46 (wt0 rfl) (x_assign rfl) rfl rfl fun a_49 HE50 => ?_
      refine wpList_nil ?_
      clear HH21 a_22 HE23 a_47 HE48 hK45 K_44
      refine nrm ?_
      refine wp_ret ?_
      refine ret1 HE50 rfl (rv_tmp rfl) ?_
      have hF : (digT a0) = digT (a0.take k) := by
        rw [List.take_of_length_le (by omega)]
      exact ⟨by first | (rw [hF] <;> rfl) | rfl | (rw [hF]; simp only [Ending.returned.injEq, Value.slice.injEq, true_and, and_true]; first | omega | (simp; done)) | (rw [hF]; simp; omega), HH46.below⟩

theorem eqg_Rule : Tryz.prog.eqGuardType Tryz.prog.depth 92 = false := by kernel_rfl

theorem eqr_Rule (w : World) (a b c a' b' c' : Int) : (Op.equalIn 10000 92 (.agg #[.int .i64 a, .int .i64 b, .int .i64 c]) (.agg #[.int .i64 a', .int .i64 b', .int .i64 c'])).run Tryz.prog w = .ok ((a == a') && ((b == b') && (c == c'))) w := by
  have hS : Tryz.prog.underlying 92 = some (.struct (Tryz.prog.fieldsOf 92)) := by kernel_rfl
  have hp : Tryz.prog.stoodInHeld 92 = false := by kernel_rfl
  have h2 : Tryz.prog.underlying 2 = some (.int .i64) := Tryz.underlying2
  rw [run_equalIn_struct w 9999 92 _ _ hS hp]
  simp only [Program.fieldsOf, Tryz.underlying92]
  simp [Op.eqFields, part, Sem.run_bind, run_equalIn_int, h2]
  by_cases h1 : a = a' <;> by_cases h3 : b = b' <;> by_cases h4 : c = c' <;> simp [h1, h3, h4]

def noRl : tRule := (0, 0, -1)

def isRl (r : tRule) : Bool := !((r.1 == noRl.1) && ((r.2.1 == noRl.2.1) && (r.2.2 == noRl.2.2)))

def ruleB (m1 m2 : Int) (r : tRule) : Bool := if isRl r = true then withinB r.1 0 (m1 - 1) && ((r.2.1 == -1) || (r.2.1 == 1)) && withinB r.2.2 0 (m2 - 1) else true

def validMach (m : tMachine) : Bool := withinB m.1 2 6 && withinB m.2.1 1 1000 && ((m.2.2.length : Int) == m.2.1 * m.1) && !m.2.2.any (fun r => !ruleB m.1 m.2.1 r)

theorem mul_bd2 {a b : Int} (h1 : 2 ≤ a ∧ a ≤ 6) (h2 : 1 ≤ b ∧ b ≤ 1000) : (0 ≤ b * a ∧ b * a ≤ 6000) ∧ a * b = b * a := by
  refine ⟨⟨Int.mul_nonneg (by omega) (by omega), ?_⟩, Int.mul_comm _ _⟩
  have := Int.mul_le_mul h2.2 h1.2 (by omega) (by omega)
  omega

theorem validMach_facts {m : tMachine} (h : validMach m = true) : (2 ≤ m.1 ∧ m.1 ≤ 6) ∧ (1 ≤ m.2.1 ∧ m.2.1 ≤ 1000) ∧ (m.2.2.length : Int) = m.2.1 * m.1 ∧ m.2.2.length ≤ 6000 := by
  unfold validMach at h
  simp only [Bool.and_eq_true, beq_iff_eq] at h
  have h1 := withinB_true.1 h.1.1.1
  have h2 := withinB_true.1 h.1.1.2
  have h3 := mul_bd2 h1 h2
  exact ⟨h1, h2, h.1.2, by have := h.1.2; omega⟩

theorem ct_cost_SRule (xs : List tRule) : ct_SRule xs ≤ 4 * cost_SRule xs := by
  have := cntL_const ct_Rule 3 xs fun _ => rfl
  unfold ct_SRule cost_SRule; omega

theorem cv_cost_Machine (x : tMachine) : cv_Machine x ≤ 4 * cost_Machine x := ct_cost_SRule x.2.2

set_option maxRecDepth 100000 in
set_option maxHeartbeats 4000000 in
theorem impl_noRule  (w : World)  :
    Calls Tryz.prog 153 #[] w fun e w' => ∃ (es0' : List Value), e = .returned (.agg es0'.toArray) ∧ eRule.O w' (Fr w w') es0' noRl ∧ Below w.heap.size w w' := by
  have HH1 := Held.start Nob w
  refine enter (n := 2) Tryz.func153 rfl rfl rfl fun a_2 HE3 => ?_
  refine wp_seq ?_
  refine rg ?_
  refine pl fun K_4 hK5 => ?_
  refine st_alloc HE3 HH1 tv_92 (wt0 rfl) rfl fun q21 a_6 w' HE7 HH8 => hK5 _ _ ?_
  refine wpList_nil ?_
  clear a_2 HE3 HH1 hK5 K_4
  refine nrm ?_
  refine wp_seq ?_
  refine rg ?_
  refine pl_x HE7 HH8 (wt0 rfl) (show XS _ _ _ _ (.agg #[.int .i64 (0), .int .i64 (0), .int .i64 (-1)]) from x_build (vs := [(2, .int .i64 (-1))]) tb_92 rfl (by simp [Value.oneCell'])) rfl rfl fun a_9 HE10 => ?_
  refine pl fun K_11 hK12 => ?_
  refine st_store (vs := [.int .i64 (0), .int .i64 (0), .int .i64 (-1)]) 0 HE10 HH8 tv_92 rfl rfl rfl rfl rfl rfl (by simp [Value.oneCell']) (wt0 rfl) fun w' HH13 => hK12 _ _ ?_
  refine wpList_nil ?_
  clear a_6 HE7 HH8 hK12 K_11
  refine nrm ?_
  refine wp_ret ?_
  refine ret1 HE10 rfl (rv_cell rfl (tv_92.loadN (cs := [.int .i64 (0), .int .i64 (0), .int .i64 (-1)]) rfl (c_blkN 0 rfl _ HH13))) ?_
  have HH14 := HH13.flatO (E := eRule) (cs := [.int .i64 (0), .int .i64 (0), .int .i64 (-1)]) (x := (0, 0, -1)) (fun _ => (oPrN (oI (by exact ⟨by omega, by omega⟩)) (oPrN (oI (by exact ⟨by omega, by omega⟩)) (oI (by exact ⟨by omega, by omega⟩)))))
  have hF : noRl = (0, 0, -1) := by
    rfl
  exact ⟨_, rfl, by rw [hF]; exact (HH14.o (i := 0) rfl), HH14.below⟩

set_option maxRecDepth 100000 in
set_option maxHeartbeats 4000000 in
theorem impl_isRule (es0 : List Value) (a0 : tRule) (w : World) (h0 : eRule.R w (Old w) es0 a0) :
    Calls Tryz.prog 139 #[.agg es0.toArray] w fun e w' => e = .returned (.bool (isRl a0)) ∧ Below w.heap.size w w' := by
  have H0 := h0
  obtain ⟨rfl, gz0_0, gz0_1, gz0_2⟩ := shape_Rule h0
  have jz0_0 := gz0_0; unfold I64 at jz0_0
  have jz0_1 := gz0_1; unfold I64 at jz0_1
  have jz0_2 := gz0_2; unfold I64 at jz0_2
  have HH1 := Held.start Nob w
  refine enter (n := 6) Tryz.func139 rfl rfl rfl fun a_2 HE3 => ?_
  refine wp_seq ?_
  refine rg ?_
  refine pl fun K_4 hK5 => ?_
  refine st_box (cs := [.int .i64 (a0.1), .int .i64 (a0.2.1), .int .i64 (a0.2.2)]) HE3 HH1 rfl rfl (wt0 rfl) rfl fun q21 a_6 w' HE7 HH8 => hK5 _ _ ?_
  refine pl_x HE7 HH8 (wt0 rfl) (x_assign rfl) rfl rfl fun a_9 HE10 => ?_
  refine wpList_nil ?_
  clear a_2 HE3 HH1 a_6 HE7 hK5 K_4
  refine nrm ?_
  refine wp_seq ?_
  refine dr_start (Held Nob w [rBlk q21 92 [.int .i64 (a0.1), .int .i64 (a0.2.1), .int .i64 (a0.2.2)]]) 4 #[false, false, false, false] hmix rfl rfl HH8 (fun _ h => h.sel [0] (by decide) rfl) fun w' HH11 => ?_
  have HS12 := HH11
  refine dr_take (i := 0) (ls' := #[true, false, false, false]) HE10 HS12 rfl (by kernel_rfl) (by kernel_rfl) (by kernel_rfl) (fun _ _ _ h => h) rfl (wt0 rfl) (x_loadN (cs := [.int .i64 (a0.1), .int .i64 (a0.2.1), .int .i64 (a0.2.2)]) tv_92 rfl rfl (c_blkN 0 rfl)) rfl rfl fun a_13 HE14 => ?_
  refine dr_one (i := 1) (ls' := #[true, true, false, false]) rfl (by kernel_rfl) rfl fun K_15 hK16 => ?_
  refine st_call HE14 (wt0 rfl) rfl rfl rfl en_153 rfl rfl (impl_noRule  _ ) fun e w' hr => ?_
  obtain ⟨esr22_0, rfl, hor22_0, hbr22⟩ := hr
  have hr := eRule.read hor22_0
  obtain ⟨Sr22, HH17⟩ := HH11.newO hbr22 hor22_0
  obtain ⟨rfl, gr22_0_0, gr22_0_1, gr22_0_2⟩ := shape_Rule hr
  have jr22_0_0 := gr22_0_0; unfold I64 at jr22_0_0
  have jr22_0_1 := gr22_0_1; unfold I64 at jr22_0_1
  have jr22_0_2 := gr22_0_2; unfold I64 at jr22_0_2
  have HH18 := HH17.sel [1] (by decide) rfl
  refine ⟨_, rfl, fun a_19 HE20 => hK16 _ _ (by exact HH18.sel [0] (by decide) rfl) ?_⟩
  have HS21 := HH18.sel [0] (by decide) rfl
  refine dr_take (i := 2) (ls' := #[true, true, true, false]) HE20 HS21 rfl (by kernel_rfl) (by kernel_rfl) (by kernel_rfl) (fun _ _ _ h => h) rfl (wt0 rfl) (x_aneq eqg_Rule (fun w => eqr_Rule w _ _ _ _ _ _) rfl rfl) rfl rfl fun a_22 HE23 => ?_
  refine dr_take (i := 3) (ls' := #[true, true, true, true]) HE23 HS21 rfl (by kernel_rfl) (by kernel_rfl) (by kernel_rfl) (fun _ _ _ h => h) rfl (wt0 rfl) (x_assign rfl) rfl rfl fun a_24 HE25 => ?_
  refine dr_done (by kernel_rfl) ?_
  clear HH8 a_9 HE10 HH11 HH17 a_13 HE14 HS12 a_19 HE20 a_22 HE23 hK16 K_15
  refine nrm ?_
  refine wp_ret ?_
  refine ret1 HE25 rfl (rv_tmp rfl) ?_
  have hF : (isRl a0) = !(a0.1 == noRl.1 && (a0.2.1 == noRl.2.1 && (a0.2.2 == noRl.2.2))) := by
    rfl
  exact ⟨by first | (rw [hF] <;> rfl) | rfl | (rw [hF]; simp only [Ending.returned.injEq, Value.slice.injEq, true_and, and_true]; first | omega | (simp; done)) | (rw [hF]; simp; omega), HH18.below⟩

end Go.Proofs.YthknelhboibbnaaGreatDoor
