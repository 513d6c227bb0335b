/- What the proof of FnExactConfigText needs: contracts of the functions that it reaches, each once. -/
import Derived.Test.YtjnnkmflpbildaaDoorProg
import Derived.Test.YtjnnkmflpbildaaDoorQMem
import Derived.Test.YtjnnkmflpbildaaDoorQOpen
import Derived.Test.YtjnnkmflpbildaaDoorLConfigTexta
import Derived.WalkKit
import Derived.WalkSpells
import Derived.Below
import Derived.LoopTactic
import Derived.Outline
import Derived.Deep.QuietTactic
import Derived.BigQuiet
import Derived.Deep.LoopGhost
import Derived.Handy
import Derived.Lib.Hide
import Derived.Shelf.Abstract
import Derived.StillTailTactics
import Derived.OwnWalk
import Derived.Maps.AppendAt
import Derived.RegionTactic
import Derived.Deep.RegionHeld3
import Derived.IntWalk
import Derived.Deep.Upon
import Derived.Laws.OwnMore
import Derived.Maps.AppendAt
import Derived.Laws.BytesString
import Derived.Laws.Strings
import Derived.Lib.Bytes
import Derived.Lib.Strings
import Derived.Lib.FrozenHead
import Derived.Lib.RuneBytes
import Derived.Lib.LaidTab
import Derived.Laws.StructEq
import Derived.Lib.SliceRun
import Derived.Lib.AppendZeros
import Derived.Lib.ItoaLen
import Derived.Lib.Join
import Derived.Shelf.Strconv.Itoa4
import Derived.Shelf.Strings.OnBuilder
import Derived.Shelf.Strings.BuilderK
import Derived.Shelf.Strings.BuilderRune
import Derived.Shelf.LaysM
import Derived.Ground.NamesProg
namespace Go.Proofs.YtjnnkmflpbildaaDoor
open Go.RowKit

set_option maxRecDepth 100000 in
set_option maxHeartbeats 2000000 in
theorem to_Config (es : List Value) (x : tConfig) (w : World) (h : eConfig.R w (Old w) es x) (hcost : cost_Config x ≤ 1048576) :
    Calls Tryd.prog 43 #[.agg es.toArray] w fun e w' => ∃ es', e = .returned (.agg es'.toArray) ∧ eConfig.O w' (Fr w w') es' x ∧ Below w.heap.size w w' := by
  obtain ⟨A1, c1, A2, c2, rfl, g0, g1, g2⟩ := shape_Config h
  have HC : Hid (cost_Config x ≤ 1048576) := hcost
  unfold cost_Config at hcost
  have HB0 : Hid (Below w.heap.size w (((w.alloc (.cells #[.int .i64 x.1, .slice A1 x.2.1.length c1, .slice A2 x.2.2.length c2] 72)).alloc (.cells #[.int .i64 0, .slice none 0 0, .slice none 0 0] 80)).alloc (.cells #[.int .i64 x.1, .slice none 0 0, .slice none 0 0] 80))) := by show Below _ _ _; go_grown
  have hc1 : cost_L x.2.1 ≤ 1048576 := by omega
  have HC1 := Lib.hid hc1; clear hc1
  have K1 := Lib.hid g1; clear g1
  have hc2 : cost_L x.2.2 ≤ 1048576 := by omega
  have HC2 := Lib.hid hc2; clear hc2
  have K2 := Lib.hid g2; clear g2
  have G0 := Lib.hid g0; clear g0
  clear hcost h
  go_enter Tryd.func43, Tryd.ntmps43
  go_wp2_with fail
  refine (to_Int64S _ _ x.2.1 _ (by exact K1.out.on HB0.out) HC1.out).mono ?_
  rintro e w1 ⟨A1', c1', rfl, hs, hb⟩
  have HS1 := Lib.hid hs; clear hs
  have BL1 := Lib.hid (HB0.out.trans (hb.mono HB0.out.size))
  have HBW1 := Lib.hid hb; clear hb
  have HX := Lib.hid ((((Blk.new w 72 #[.int .i64 x.1, .slice A1 x.2.1.length c1, .slice A2 x.2.2.length c2]).alloc _).alloc _).on HBW1.out)
  have HR := Lib.hid (((Blk.new1 w _ 80 #[.int .i64 0, .slice none 0 0, .slice none 0 0]).alloc _).on HBW1.out)
  have HO : Hid (Blk w1 (w.heap.size + 1 + 1) 80 #[.int .i64 x.1, .slice none 0 0, .slice none 0 0]) := (Blk.new2 w _ _ 80 #[.int .i64 x.1, .slice none 0 0, .slice none 0 0]).on HBW1.out
  have x0 : w1.cell? ⟨w.heap.size, 0, none⟩ = some (.int .i64 x.1) := HX.out.cell 0
  have o0 : w1.cell? ⟨w.heap.size + 1 + 1, 0, none⟩ = some (.int .i64 x.1) := HO.out.cell 0
  have r0 : w1.cell? ⟨w.heap.size + 1, 0, none⟩ = some (.int .i64 0) := HR.out.cell 0
  have p0 : w1.frozen? ⟨w.heap.size + 1 + 1, 0, none⟩ = false := HO.out.frozen 0
  have q0 : w1.frozen? ⟨w.heap.size + 1, 0, none⟩ = false := HR.out.frozen 0
  have x1 : w1.cell? ⟨w.heap.size, 1, none⟩ = some (.slice A1 x.2.1.length c1) := HX.out.cell 1
  have o1 : w1.cell? ⟨w.heap.size + 1 + 1, 1, none⟩ = some (.slice none 0 0) := HO.out.cell 1
  have r1 : w1.cell? ⟨w.heap.size + 1, 1, none⟩ = some (.slice none 0 0) := HR.out.cell 1
  have p1 : w1.frozen? ⟨w.heap.size + 1 + 1, 1, none⟩ = false := HO.out.frozen 1
  have q1 : w1.frozen? ⟨w.heap.size + 1, 1, none⟩ = false := HR.out.frozen 1
  have x2 : w1.cell? ⟨w.heap.size, 2, none⟩ = some (.slice A2 x.2.2.length c2) := HX.out.cell 2
  have o2 : w1.cell? ⟨w.heap.size + 1 + 1, 2, none⟩ = some (.slice none 0 0) := HO.out.cell 2
  have r2 : w1.cell? ⟨w.heap.size + 1, 2, none⟩ = some (.slice none 0 0) := HR.out.cell 2
  have p2 : w1.frozen? ⟨w.heap.size + 1 + 1, 2, none⟩ = false := HO.out.frozen 2
  have q2 : w1.frozen? ⟨w.heap.size + 1, 2, none⟩ = false := HR.out.frozen 2
  go_wp2_with fail
  refine (to_Int64S _ _ x.2.2 _ (by exact K2.out.on (BL1.out.setCell (p := ⟨w.heap.size + 1 + 1, 1, none⟩) (by show w.heap.size ≤ w.heap.size + 1 + 1; omega) _)) HC2.out).mono ?_
  rintro e w2 ⟨A2', c2', rfl, hs, hb⟩
  have HS2 := Lib.hid hs; clear hs
  have BL2 := Lib.hid ((BL1.out.setCell (p := ⟨w.heap.size + 1 + 1, 1, none⟩) (by show w.heap.size ≤ w.heap.size + 1 + 1; omega) _).trans (hb.mono (BL1.out.setCell (p := ⟨w.heap.size + 1 + 1, 1, none⟩) (by show w.heap.size ≤ w.heap.size + 1 + 1; omega) _).size))
  have HBW2 := Lib.hid hb; clear hb
  have HX' := Lib.hid ((HX.out.far (p := ⟨w.heap.size + 1 + 1, 1, none⟩) (by show w.heap.size ≠ w.heap.size + 1 + 1; omega) _).on HBW2.out); clear HX; have HX := HX'; clear HX'
  have HR' := Lib.hid ((HR.out.far (p := ⟨w.heap.size + 1 + 1, 1, none⟩) (by show w.heap.size + 1 ≠ w.heap.size + 1 + 1; omega) _).on HBW2.out); clear HR; have HR := HR'; clear HR'
  have HO' : Hid (Blk w2 (w.heap.size + 1 + 1) 80 #[.int .i64 x.1, .slice A1' x.2.1.length c1', .slice none 0 0]) := (HO.out.set _ _).on HBW2.out; clear HO; have HO := HO'; clear HO'
  clear x0 o0 r0 p0 q0 x1 o1 r1 p1 q1 x2 o2 r2 p2 q2
  have x0 : w2.cell? ⟨w.heap.size, 0, none⟩ = some (.int .i64 x.1) := HX.out.cell 0
  have o0 : w2.cell? ⟨w.heap.size + 1 + 1, 0, none⟩ = some (.int .i64 x.1) := HO.out.cell 0
  have r0 : w2.cell? ⟨w.heap.size + 1, 0, none⟩ = some (.int .i64 0) := HR.out.cell 0
  have p0 : w2.frozen? ⟨w.heap.size + 1 + 1, 0, none⟩ = false := HO.out.frozen 0
  have q0 : w2.frozen? ⟨w.heap.size + 1, 0, none⟩ = false := HR.out.frozen 0
  have x1 : w2.cell? ⟨w.heap.size, 1, none⟩ = some (.slice A1 x.2.1.length c1) := HX.out.cell 1
  have o1 : w2.cell? ⟨w.heap.size + 1 + 1, 1, none⟩ = some (.slice A1' x.2.1.length c1') := HO.out.cell 1
  have r1 : w2.cell? ⟨w.heap.size + 1, 1, none⟩ = some (.slice none 0 0) := HR.out.cell 1
  have p1 : w2.frozen? ⟨w.heap.size + 1 + 1, 1, none⟩ = false := HO.out.frozen 1
  have q1 : w2.frozen? ⟨w.heap.size + 1, 1, none⟩ = false := HR.out.frozen 1
  have x2 : w2.cell? ⟨w.heap.size, 2, none⟩ = some (.slice A2 x.2.2.length c2) := HX.out.cell 2
  have o2 : w2.cell? ⟨w.heap.size + 1 + 1, 2, none⟩ = some (.slice none 0 0) := HO.out.cell 2
  have r2 : w2.cell? ⟨w.heap.size + 1, 2, none⟩ = some (.slice none 0 0) := HR.out.cell 2
  have p2 : w2.frozen? ⟨w.heap.size + 1 + 1, 2, none⟩ = false := HO.out.frozen 2
  have q2 : w2.frozen? ⟨w.heap.size + 1, 2, none⟩ = false := HR.out.frozen 2
  go_wp2
  have hE : Blk ((((w2.setCell ⟨w.heap.size + 1 + 1, 2, none⟩ (.slice A2' x.2.2.length c2')).setCell ⟨w.heap.size + 1, 0, none⟩ (.int .i64 x.1)).setCell ⟨w.heap.size + 1, 1, none⟩ (.slice A1' x.2.1.length c1')).setCell ⟨w.heap.size + 1, 2, none⟩ (.slice A2' x.2.2.length c2')) (w.heap.size + 1) 80 #[.int .i64 x.1, .slice A1' x.2.1.length c1', .slice A2' x.2.2.length c2'] := ((((HR.out.far (p := ⟨w.heap.size + 1 + 1, 2, none⟩) (by show w.heap.size + 1 ≠ w.heap.size + 1 + 1; omega) _).set _ _).set _ _).set _ _)
  have e0 : ((((w2.setCell ⟨w.heap.size + 1 + 1, 2, none⟩ (.slice A2' x.2.2.length c2')).setCell ⟨w.heap.size + 1, 0, none⟩ (.int .i64 x.1)).setCell ⟨w.heap.size + 1, 1, none⟩ (.slice A1' x.2.1.length c1')).setCell ⟨w.heap.size + 1, 2, none⟩ (.slice A2' x.2.2.length c2')).cell? ⟨w.heap.size + 1, 0, none⟩ = some (.int .i64 x.1) := hE.cell 0
  have e1 : ((((w2.setCell ⟨w.heap.size + 1 + 1, 2, none⟩ (.slice A2' x.2.2.length c2')).setCell ⟨w.heap.size + 1, 0, none⟩ (.int .i64 x.1)).setCell ⟨w.heap.size + 1, 1, none⟩ (.slice A1' x.2.1.length c1')).setCell ⟨w.heap.size + 1, 2, none⟩ (.slice A2' x.2.2.length c2')).cell? ⟨w.heap.size + 1, 1, none⟩ = some (.slice A1' x.2.1.length c1') := hE.cell 1
  have e2 : ((((w2.setCell ⟨w.heap.size + 1 + 1, 2, none⟩ (.slice A2' x.2.2.length c2')).setCell ⟨w.heap.size + 1, 0, none⟩ (.int .i64 x.1)).setCell ⟨w.heap.size + 1, 1, none⟩ (.slice A1' x.2.1.length c1')).setCell ⟨w.heap.size + 1, 2, none⟩ (.slice A2' x.2.2.length c2')).cell? ⟨w.heap.size + 1, 2, none⟩ = some (.slice A2' x.2.2.length c2') := hE.cell 2
  refine bodyPost_ret (v := .agg #[.int .i64 x.1, .slice A1' x.2.1.length c1', .slice A2' x.2.2.length c2']) (by simp [results, Tryd.results43, go_sem, e0, e1, e2]) rfl ?_
  have t1 : w.heap.size + 3 ≤ w1.heap.size := by have h1 := HBW1.out.size; simp only [World.size_alloc] at h1; omega
  have t2 : w.heap.size + 3 ≤ w2.heap.size := by have h1 := HBW1.out.size; simp only [World.size_alloc] at h1; have h2 := HBW2.out.size; simp only [World.size_setCell] at h2; omega
  refine ⟨[.int .i64 x.1, .slice A1' x.2.1.length c1', .slice A2' x.2.2.length c2'], rfl, ?_, ?_⟩
  · have sE1 : So eInt ((((w2.setCell ⟨w.heap.size + 1 + 1, 2, none⟩ (.slice A2' x.2.2.length c2')).setCell ⟨w.heap.size + 1, 0, none⟩ (.int .i64 x.1)).setCell ⟨w.heap.size + 1, 1, none⟩ (.slice A1' x.2.1.length c1')).setCell ⟨w.heap.size + 1, 2, none⟩ (.slice A2' x.2.2.length c2')) (Iv w.heap.size w1.heap.size) _ _ x.2.1 := (HS1.out.keep (w' := ((((w2.setCell ⟨w.heap.size + 1 + 1, 2, none⟩ (.slice A2' x.2.2.length c2')).setCell ⟨w.heap.size + 1, 0, none⟩ (.int .i64 x.1)).setCell ⟨w.heap.size + 1, 1, none⟩ (.slice A1' x.2.1.length c1')).setCell ⟨w.heap.size + 1, 2, none⟩ (.slice A2' x.2.2.length c2'))) fun b hb => (((((((Lat.refl (w.heap.size + 3) w1).set (p := ⟨w.heap.size + 1 + 1, 1, none⟩) (by show w.heap.size + 1 + 1 < _; omega)).below HBW2.out).set (p := ⟨w.heap.size + 1 + 1, 2, none⟩) (by show w.heap.size + 1 + 1 < _; omega)).set (p := ⟨w.heap.size + 1, 0, none⟩) (by show w.heap.size + 1 < _; omega)).set (p := ⟨w.heap.size + 1, 1, none⟩) (by show w.heap.size + 1 < _; omega)).set (p := ⟨w.heap.size + 1, 2, none⟩) (by show w.heap.size + 1 < _; omega)).block b (by have h1 := hb.1; simp only [World.size_alloc, World.size_setCell] at h1; omega) hb.2).more (Iv.mono (by simp only [World.size_alloc]; omega) (by omega))
    have u2 : w1.heap.size ≤ w2.heap.size := by have := HBW2.out.size; simp only [World.size_setCell] at this; omega
    have sE2 : So eInt ((((w2.setCell ⟨w.heap.size + 1 + 1, 2, none⟩ (.slice A2' x.2.2.length c2')).setCell ⟨w.heap.size + 1, 0, none⟩ (.int .i64 x.1)).setCell ⟨w.heap.size + 1, 1, none⟩ (.slice A1' x.2.1.length c1')).setCell ⟨w.heap.size + 1, 2, none⟩ (.slice A2' x.2.2.length c2')) (Iv w1.heap.size ((((w2.setCell ⟨w.heap.size + 1 + 1, 2, none⟩ (.slice A2' x.2.2.length c2')).setCell ⟨w.heap.size + 1, 0, none⟩ (.int .i64 x.1)).setCell ⟨w.heap.size + 1, 1, none⟩ (.slice A1' x.2.1.length c1')).setCell ⟨w.heap.size + 1, 2, none⟩ (.slice A2' x.2.2.length c2')).heap.size) _ _ x.2.2 := (HS2.out.keep (w' := ((((w2.setCell ⟨w.heap.size + 1 + 1, 2, none⟩ (.slice A2' x.2.2.length c2')).setCell ⟨w.heap.size + 1, 0, none⟩ (.int .i64 x.1)).setCell ⟨w.heap.size + 1, 1, none⟩ (.slice A1' x.2.1.length c1')).setCell ⟨w.heap.size + 1, 2, none⟩ (.slice A2' x.2.2.length c2'))) fun b hb => (((((Lat.refl (w.heap.size + 3) w2).set (p := ⟨w.heap.size + 1 + 1, 2, none⟩) (by show w.heap.size + 1 + 1 < _; omega)).set (p := ⟨w.heap.size + 1, 0, none⟩) (by show w.heap.size + 1 < _; omega)).set (p := ⟨w.heap.size + 1, 1, none⟩) (by show w.heap.size + 1 < _; omega)).set (p := ⟨w.heap.size + 1, 2, none⟩) (by show w.heap.size + 1 < _; omega)).block b (by have h1 := hb.1; simp only [World.size_alloc, World.size_setCell] at h1; omega) hb.2).more (Iv.mono (by simp only [World.size_setCell]; omega) (by simp only [World.size_setCell]; omega))
    exact (oPrI G0.out (oPr (l := w.heap.size) (m := w1.heap.size) (oSl sE1) (oSl sE2) (by omega) (by first | omega | (simp only [World.size_setCell]; omega))))
  · exact ((((BL2.out.setCell (p := ⟨w.heap.size + 1 + 1, 2, none⟩) (by show w.heap.size ≤ w.heap.size + 1 + 1; omega) _).setCell (p := ⟨w.heap.size + 1, 0, none⟩) (by show w.heap.size ≤ w.heap.size + 1; omega) _).setCell (p := ⟨w.heap.size + 1, 1, none⟩) (by show w.heap.size ≤ w.heap.size + 1; omega) _).setCell (p := ⟨w.heap.size + 1, 2, none⟩) (by show w.heap.size ≤ w.heap.size + 1; omega) _)

/-- A slice of the call's own, from block `base` on, holding flat elements. -/
def Row {α : Type} (E : Enc α) (enc : α → List Value) (t : TypeId) (w : World) (base : Nat) (v : Value) (xs : List α) : Prop :=
  w.ownsRow base t E.size v xs.length (xs.flatMap enc) ∧ ∀ x ∈ xs, ∀ W : World, E.O W (fun _ => False) (enc x) x

theorem flat_get {α : Type} (enc : α → List Value) (s : Nat) : ∀ (xs : List α), (∀ x ∈ xs, (enc x).length = s) → ∀ (i : Nat) (x : α), xs[i]? = some x → ∀ j, j < s → (xs.flatMap enc)[i * s + j]? = (enc x)[j]?
  | [], _, i, x, hx, _, _ => by simp at hx
  | y :: ys, h, 0, x, hx, j, hj => by
    simp at hx; subst hx
    rw [List.flatMap_cons, Nat.zero_mul, Nat.zero_add, List.getElem?_append_left (by rw [h y (by simp)]; exact hj)]
  | y :: ys, h, i + 1, x, hx, j, hj => by
    have hy := h y (by simp)
    rw [List.flatMap_cons, Nat.succ_mul, List.getElem?_append_right (by rw [hy]; omega), hy, show i * s + s + j - s = i * s + j from by omega]
    exact flat_get enc s ys (fun z hz => h z (by simp [hz])) i x (by simpa using hx) j hj

theorem Row.so {α : Type} {E : Enc α} {enc : α → List Value} {t : TypeId} {w0 w : World} {v : Value} {xs : List α} (h : Row E enc t w w0.heap.size v xs) : ∃ A c, v = .slice A xs.length c ∧ So E w (Fr w0 w) A c xs := by
  obtain ⟨h1, h2⟩ := h
  rcases h1.2 with ⟨rfl, hn⟩ | ⟨g, cap, cur, rfl, hg, hh, hnc, hcm, hcs, htk⟩
  · have hx : xs = [] := List.eq_nil_of_length_eq_zero hn
    subst hx
    exact ⟨none, 0, rfl, So.nil (Nat.zero_le _)⟩
  · refine ⟨_, cap, rfl, hnc, hcm, fun hne => ⟨g, 0, t, cur, fun _ _ => False, rfl, ⟨hg, Blk.lt (t := t) (cur := cur) hh⟩, hh, fun _ _ h => h.elim, fun _ _ _ h => h.elim, fun i x hx => ⟨enc x, h2 x (List.mem_of_getElem? hx) w, fun j u hu => ?_⟩⟩⟩
    have hi := (List.getElem?_eq_some_iff.1 hx).1
    have hj := (List.getElem?_eq_some_iff.1 hu).1
    have hl : ∀ y ∈ xs, (enc y).length = E.size := fun y hy => E.len (E.read (h2 y hy w))
    rw [hl x (List.mem_of_getElem? hx)] at hj
    have h3 := flat_get enc E.size xs hl i x hx j hj
    rw [← htk] at h3
    have hlt : i * E.size + j < xs.length * E.size := by
      have : (i + 1) * E.size ≤ xs.length * E.size := Nat.mul_le_mul_right _ (by omega)
      rw [Nat.succ_mul] at this; omega
    rw [List.getElem?_take_of_lt hlt, Array.getElem?_toList] at h3
    rw [Nat.zero_add, h3]; exact hu

theorem Row.nil {α : Type} {E : Enc α} {enc : α → List Value} {t : TypeId} {w : World} {base : Nat} : Row E enc t w base (.slice none 0 0) [] := ⟨World.ownsRow_nil _ _ _ _, fun _ h => by simp at h⟩

/-- `[]T{}`: an empty row of its own. -/
theorem Row.empty {α : Type} {E : Enc α} {enc : α → List Value} {t : TypeId} {w : World} {base : Nat} (hb : base ≤ w.heap.size) : Row E enc t (w.alloc (.cells #[] t)) base (.slice (some ⟨w.heap.size, 0, none⟩) 0 0) [] :=
  ⟨⟨by simp, .inr ⟨_, 0, #[], rfl, hb, Blk.new w t #[], Nat.le_refl _, Nat.zero_le _, by simp, by simp⟩⟩, fun _ h => by simp at h⟩

def encInt (x : Int) : List Value := [.int .i64 x]

theorem Row.keep {α : Type} {E : Enc α} {enc : α → List Value} {t : TypeId} {w w' : World} {base : Nat} {v : Value} {xs : List α} (h : Row E enc t w base v xs) (hk : ∀ b, v.ownBlock = some b → w'.heap[b]? = w.heap[b]?) : Row E enc t w' base v xs := by
  obtain ⟨⟨h1, h2⟩, h3⟩ := h
  refine ⟨⟨h1, ?_⟩, h3⟩
  rcases h2 with h2 | ⟨g, cap, cur, rfl, hg, hh, r⟩
  · exact .inl h2
  · exact .inr ⟨g, cap, cur, rfl, hg, (hk g rfl).trans hh, r⟩

theorem Row.lt {α : Type} {E : Enc α} {enc : α → List Value} {t : TypeId} {w : World} {base : Nat} {v : Value} {xs : List α} (h : Row E enc t w base v xs) : ∀ b, v.ownBlock = some b → base ≤ b ∧ b < w.heap.size := h.1.lt

theorem Row.on {α : Type} {E : Enc α} {enc : α → List Value} {t : TypeId} {w w' : World} {base : Nat} {v : Value} {xs : List α} (h : Row E enc t w base v xs) (hb : Below w.heap.size w w') : Row E enc t w' base v xs := h.keep fun b hv => hb.block b (h.lt b hv).2

theorem Row.snoc {α : Type} {E : Enc α} {enc : α → List Value} {t : TypeId} {w w' : World} {base : Nat} {v v' : Value} {xs : List α} {x : α} (h : Row E enc t w base v xs) (ho : w'.ownsRow base t E.size v' (xs.length + 1) (xs.flatMap enc ++ enc x)) (hx : ∀ W : World, E.O W (fun _ => False) (enc x) x) : Row E enc t w' base v' (xs ++ [x]) := by
  refine ⟨?_, fun y hy => ?_⟩
  · rw [List.length_append, List.length_singleton, List.flatMap_append]
    simpa using ho
  · rcases List.mem_append.1 hy with h1 | h1
    · exact h.2 y h1
    · rw [List.mem_singleton.1 h1]; exact hx

/-- Elements whose cells lead nowhere. -/
structure Flat {α : Type} (E : Enc α) (enc : α → List Value) : Prop where
  r : ∀ {W : World} {S : Nat → Prop} {cs : List Value} {x : α}, E.R W S cs x → cs = enc x ∧ ∀ W' : World, E.O W' (fun _ => False) (enc x) x
  one : ∀ (x : α), ∀ u ∈ enc x, u.oneCell' = true

theorem flat_int : Flat eInt encInt := ⟨fun h => ⟨h.1, fun _ => ⟨rfl, h.2⟩⟩, fun x u hu => by simp [encInt] at hu; subst hu; rfl⟩

theorem flatMap_at {α : Type} (enc : α → List Value) (s : Nat) (hs : 0 < s) : ∀ (ys : List α), (∀ y ∈ ys, (enc y).length = s) → ∀ (j : Nat) (u : Value), (ys.flatMap enc)[j]? = some u → ∃ y, ys[j / s]? = some y ∧ (enc y)[j % s]? = some u
  | [], _, j, u, h => by simp at h
  | y :: ys, hl, j, u, h => by
    have hy := hl y (by simp)
    rw [List.flatMap_cons] at h
    by_cases hj : j < s
    · rw [List.getElem?_append_left (by omega)] at h
      exact ⟨y, by rw [Nat.div_eq_of_lt hj]; rfl, by rw [Nat.mod_eq_of_lt hj]; exact h⟩
    · rw [List.getElem?_append_right (by omega), hy] at h
      obtain ⟨z, h1, h2⟩ := flatMap_at enc s hs ys (fun z hz => hl z (by simp [hz])) (j - s) u h
      refine ⟨z, ?_, ?_⟩
      · rw [Nat.div_eq_sub_div hs (by omega), List.getElem?_cons_succ]; exact h1
      · rw [Nat.mod_eq_sub_mod (by omega)]; exact h2

theorem flatMap_len {α : Type} (enc : α → List Value) (s : Nat) (ys : List α) (h : ∀ y ∈ ys, (enc y).length = s) : (ys.flatMap enc).length = ys.length * s := by
  induction ys with
  | nil => simp
  | cons y ys ih => rw [List.flatMap_cons, List.length_append, ih (fun z hz => h z (by simp [hz])), h y (by simp), List.length_cons, Nat.succ_mul]; omega

theorem Flat.sl {α : Type} {E : Enc α} {enc : α → List Value} (hf : Flat E enc) {w : World} {S : Nat → Prop} {A : Option Addr} {c : Nat} {ys : List α} (h : Sl E w S A c ys) : ∀ y ∈ ys, ∀ W : World, E.O W (fun _ => False) (enc y) y := by
  intro y hy
  obtain ⟨i, hi, rfl⟩ := List.getElem_of_mem hy
  obtain ⟨b, off, es, _, _, h1, _⟩ := h.at hi
  exact (hf.r h1).2

theorem Flat.len {α : Type} {E : Enc α} {enc : α → List Value} {y : α} (h : ∀ W : World, E.O W (fun _ => False) (enc y) y) : (enc y).length = E.size := E.len (E.read (h default))

theorem Flat.cells {α : Type} {E : Enc α} {enc : α → List Value} (hf : Flat E enc) {w : World} {S : Nat → Prop} {b off : Nat} {c : Nat} {ys : List α} (h : Sl E w S (some ⟨b, off, none⟩) c ys) : ∀ j u, (ys.flatMap enc)[j]? = some u → w.cell? ((⟨b, off, none⟩ : Addr).add j) = some u := by
  intro j u hu
  obtain ⟨y, h1, h2⟩ := flatMap_at enc E.size E.pos ys (fun y hy => Flat.len (hf.sl h y hy)) j u hu
  have hi := (List.getElem?_eq_some_iff.1 h1).1
  obtain ⟨b', off', es, hA, _, h3, h4⟩ := h.at hi
  simp only [Option.some.injEq, Addr.mk.injEq, and_true] at hA
  obtain ⟨rfl, rfl⟩ := hA
  have hy : ys[j / E.size] = y := (List.getElem?_eq_some_iff.1 h1).2
  rw [hy] at h3
  rw [(hf.r h3).1] at h4
  have := h4 (j % E.size) u h2
  rw [show off + j / E.size * E.size + j % E.size = off + j from by rw [Nat.add_assoc, Nat.div_add_mod']] at this
  rw [Addr.add_lit]; exact this

/-- The facts on a type of elements that an append wants. -/
structure Elem {α : Type} (P : Program) (E : Enc α) (t e : TypeId) (bytes : Nat) : Prop where
  under : P.underlying t = some (.slice e)
  info : ∃ i z, P.info? e = some i ∧ i.zero = some z ∧ i.size = E.size ∧ i.bytes = bytes ∧ z.cells.size = E.size

theorem Row.all {α : Type} {E : Enc α} {enc : α → List Value} {t : TypeId} {w : World} {base : Nat} {v : Value} {xs ys : List α} (h : Row E enc t w base v xs) {w' : World} {v' : Value} (ho : w'.ownsRow base t E.size v' (xs.length + ys.length) (xs.flatMap enc ++ ys.flatMap enc)) (hy : ∀ y ∈ ys, ∀ W : World, E.O W (fun _ => False) (enc y) y) : Row E enc t w' base v' (xs ++ ys) := by
  refine ⟨by rw [List.length_append, List.flatMap_append]; exact ho, fun y hm => ?_⟩
  rcases List.mem_append.1 hm with h1 | h1
  · exact h.2 y h1
  · exact hy y h1

theorem Row.shape {α : Type} {E : Enc α} {enc : α → List Value} {t : TypeId} {w : World} {base : Nat} {v : Value} {xs : List α} (h : Row E enc t w base v xs) : ∃ A c, v = .slice A xs.length c ∧ xs.length ≤ c ∧ c ≤ maxLen := by
  rcases h.1.2 with ⟨rfl, hn⟩ | ⟨g, cap, cur, rfl, hg, hh, hnc, hcm, _⟩
  · exact ⟨none, 0, by rw [hn], by omega, Nat.zero_le _⟩
  · exact ⟨_, cap, rfl, hnc, hcm⟩

theorem run_append_row {α : Type} {P : Program} {E : Enc α} {enc : α → List Value} (hf : Flat E enc) {t e : TypeId} {bytes : Nat} (he : Elem P E t e bytes) (ty : TypeId) {w : World} {base : Nat} {v : Value} {xs ys : List α} (hR : Row E enc e w base v xs)
    {S : Nat → Prop} {A : Option Addr} {c : Nat} (hS : Sl E w S A c ys) (h63 : xs.length + ys.length ≤ maxLen) (hbytes : (xs.length + ys.length) * bytes ≤ 140737488355328) (hbase : base ≤ w.heap.size) :
    ∃ v' w', (Builtin.append_ #[t, t] ty #[v, .slice A ys.length c]).run P w = .ok v' w' ∧ Row E enc e w' base v' (xs ++ ys) ∧ w.grownBy w' v.ownBlock ∧ (v'.ownBlock = v.ownBlock ∨ v'.ownBlock = some w.heap.size) := by
  obtain ⟨i, z, hi, hz0, hz1, hz2, hz3⟩ := he.info
  have hlen : ∀ y ∈ ys, (enc y).length = E.size := fun y hy => Flat.len (hf.sl hS y hy)
  cases A with
  | none =>
    have hy : ys = [] := Classical.byContradiction fun hn => by
      obtain ⟨b, off, hA, _⟩ := hS.2.2 hn
      cases hA
    subst hy
    obtain ⟨A', c', rfl, hle, _⟩ := hR.shape
    refine ⟨_, w, run_append_nothing w t t ty e i he.under hi A' xs.length c' hle (.slice none 0 c) (Src.ofNil w he.under c), by rw [List.append_nil]; exact hR, World.grownBy.refl _ _, .inl rfl⟩
  | some ad =>
    obtain ⟨b, off, sp⟩ := ad
    by_cases hn : ys = []
    · subst hn
      obtain ⟨v', w', h1, h2, h3, h4, h5⟩ := run_append_own_at (P := P) w base t ty e i z E.size bytes he.under hi hz0 hz1 hz2 hz3 E.pos v xs.length (xs.flatMap enc) hR.1 ⟨b, off, sp⟩ 0 c [] (by simp) (fun j u h => by simp at h) (fun u h => by simp at h) h63 hbytes hbase
      exact ⟨v', w', h1, hR.all h2 (fun y hy => by simp at hy), h3, h5⟩
    · obtain ⟨b', off', hA, _⟩ := hS.2.2 hn
      simp only [Option.some.injEq, Addr.mk.injEq] at hA
      obtain ⟨rfl, rfl, rfl⟩ := hA
      obtain ⟨v', w', h1, h2, h3, h4, h5⟩ := run_append_own_at (P := P) w base t ty e i z E.size bytes he.under hi hz0 hz1 hz2 hz3 E.pos v xs.length (xs.flatMap enc) hR.1 ⟨b, off, none⟩ ys.length c (ys.flatMap enc) (flatMap_len enc E.size ys hlen) (hf.cells hS)
        (fun u hu => by obtain ⟨y, _, h⟩ := List.mem_flatMap.1 hu; exact hf.one y u h) h63 hbytes hbase
      exact ⟨v', w', h1, hR.all h2 (hf.sl hS), h3, h5⟩

theorem wpList_append_row {α : Type} {P : Program} {E : Enc α} {enc : α → List Value} (hf : Flat E enc) {t e : TypeId} {bytes : Nat} (he : Elem P E t e bytes) {ops : Array Oper} {rest : List Oper} {o : Oper} {a : Act} {Q : Exit → Act → World → Prop} {w : World} (hgd : o.guard = none) (s x : Operand)
    (ho : o.op = .call { callee := .builtin .append, args := #[s, x], argTypes := #[t, t] }) {base : Nat} {v : Value} {xs ys : List α} (hs : a.eval s = v) (hR : Row E enc e w base v xs)
    {S : Nat → Prop} {A : Option Addr} {c : Nat} (hx : a.eval x = .slice A ys.length c) (hS : Sl E w S A c ys) (h63 : xs.length + ys.length ≤ maxLen) (hbytes : (xs.length + ys.length) * bytes ≤ 140737488355328) (hbase : base ≤ w.heap.size)
    (h : ∀ v' w', Row E enc e w' base v' (xs ++ ys) → w.grownBy w' v.ownBlock → (v'.ownBlock = v.ownBlock ∨ v'.ownBlock = some w.heap.size) → wpList P ops Q rest (a.put o.dst v') w') :
    wpList P ops Q (o :: rest) a w := by
  refine wpList_plain hgd fun K hK => ?_
  obtain ⟨v', w', hr, h2, h3, h4⟩ := run_append_row hf he o.type hR hS h63 hbytes hbase
  unfold Oper.wp execOp
  simp only [ho, resolve, invoke, builtin, Sem.run_bind, Sem.run_pure, Result.andThen_ok, List.map_toArray, List.map_cons, List.map_nil, hs, hx, hr]
  exact hK _ _ (h v' w' h2 h3 h4)

theorem So.take {α : Type} {E : Enc α} {w : World} {S : Nat → Prop} {A : Option Addr} {c : Nat} {xs : List α} (h : So E w S A c xs) (k : Nat) : So E w S A c (xs.take k) :=
  ⟨by have := h.1; rw [List.length_take]; omega, h.2.1, fun hn => by
    obtain ⟨b, off, t, cur, T, hA, hb, hB, hT, hd, hc⟩ := h.2.2 (by rintro rfl; simp at hn)
    refine ⟨b, off, t, cur, T, hA, hb, hB, hT, hd, fun i x hx => hc i x ?_⟩
    rw [List.getElem?_take] at hx
    split at hx
    · exact hx
    · cases hx⟩

theorem Sl.take {α : Type} {E : Enc α} {w : World} {S : Nat → Prop} {A : Option Addr} {c : Nat} {xs : List α} (h : Sl E w S A c xs) (k : Nat) : Sl E w S A c (xs.take k) :=
  ⟨by have := h.1; rw [List.length_take]; omega, h.2.1, fun hn => by
    obtain ⟨b, off, hA, hb, hc⟩ := h.2.2 (by rintro rfl; simp at hn)
    refine ⟨b, off, hA, hb, fun i x hx => hc i x ?_⟩
    rw [List.getElem?_take] at hx
    split at hx
    · exact hx
    · cases hx⟩

/-- One number of an owned slice rewritten. -/
theorem So.setI {w : World} {S : Nat → Prop} {b off c : Nat} {xs : List Int} (h : So eInt w S (some ⟨b, off, none⟩) c xs) {k : Nat} (hk : k < xs.length) {y : Int} (hy : I64 y) : So eInt (w.setCell ⟨b, off + k, none⟩ (.int .i64 y)) S (some ⟨b, off, none⟩) c (xs.set k y) := by
  obtain ⟨b', off', t, cur, T, es, hA, hb, hB, hT, hO, hcells, hre⟩ := h.at hk
  simp only [Option.some.injEq, Addr.mk.injEq, and_true] at hA
  obtain ⟨rfl, rfl⟩ := hA
  refine hre _ [.int .i64 y] y ⟨rfl, hy⟩ ?_ (fun m hm hne _ => Below.heap_setCell _ _ _ _ hne)
  rw [show off + k * eInt.size = off + k from by show off + k * 1 = _; omega]
  exact hB.set _ _

/-- What an owned slice of numbers holds, and that it may be written. -/
theorem So.getI {w : World} {S : Nat → Prop} {A : Option Addr} {c : Nat} {xs : List Int} (h : So eInt w S A c xs) {k : Nat} (hk : k < xs.length) : ∃ b off, A = some ⟨b, off, none⟩ ∧ S b ∧ I64 xs[k] ∧ w.cell? ⟨b, off + k, none⟩ = some (.int .i64 xs[k]) ∧ w.frozen? ⟨b, off + k, none⟩ = false := by
  obtain ⟨b, off, t, cur, T, es, rfl, hb, hB, hT, hO, hcells, _⟩ := h.at hk
  obtain ⟨rfl, hi⟩ := hO
  refine ⟨b, off, rfl, hb, hi, ?_, hB.frozen _⟩
  have := hcells 0 _ rfl
  rw [show off + k * eInt.size + 0 = off + k from by show off + k * 1 + 0 = _; omega] at this
  rw [hB.cell]; exact this

def evp (L : List (Nat × Value)) : List (Nat × Operand) → Option (List (Nat × Value))
  | [] => some []
  | (i, x) :: xs => match ev L x, evp L xs with
    | some v, some vs => some ((i, v) :: vs)
    | _, _ => none

theorem evp_map {n : Nat} {L : List (Nat × Value)} {a : Act} (hE : Env n L a) : ∀ (xs : List (Nat × Operand)) (vs : List (Nat × Value)), evp L xs = some vs → (xs.map fun p => (p.1, a.eval p.2)) = vs
  | [], vs, h => by simp [evp] at h; subst h; rfl
  | (i, x) :: xs, vs, h => by
    simp only [evp] at h
    cases h1 : ev L x with
    | none => simp [h1] at h
    | some v =>
      cases h2 : evp L xs with
      | none => simp [h1, h2] at h
      | some us =>
        simp [h1, h2] at h
        subst h
        rw [List.map_cons, hE.ev h1, evp_map hE xs us h2]

def setP (cs : List Value) : List (Nat × Value) → List Value
  | [] => cs
  | p :: r => setP (cs.set p.1 p.2) r

theorem one_cells {v : Value} (h : v.oneCell' = true) : v.cells = #[v] := by cases v <;> first | rfl | (simp [Value.oneCell'] at h)

theorem fill_one {pl : Array (Nat × Nat)} {m : Nat} (hp : ∀ i, i < m → pl[i]? = some (i, 1)) : ∀ (vs : List (Nat × Value)) (cs : List Value), cs.length = m → (∀ p ∈ vs, p.1 < m ∧ p.2.oneCell' = true) → Instr.fill (fun i => pl[i]?) cs.toArray vs = some (setP cs vs).toArray
  | [], cs, _, _ => rfl
  | p :: r, cs, hl, h => by
    obtain ⟨i, v⟩ := p
    have hi := h (i, v) (by simp)
    have ih := fill_one hp r (cs.set i v) (by simpa using hl) (fun q hq => h q (by simp [hq]))
    have h2 : i + 1 ≤ cs.length := by have := hi.1; omega
    have h3 : ¬ (cs.toArray.size < i + 1) := by simp; omega
    simp only [Instr.fill, hp i hi.1, one_cells hi.2]
    simp [setP, ← ih, h3, h2]
    intro h4; omega

/-- What is known of a struct type whose fields take a cell each. -/
structure TB (P : Program) (t : TypeId) (zs : List Value) : Prop where
  tv : TV P t true zs
  under : ∃ fs pl, P.underlying t = some (.struct fs) ∧ (∀ w, (fs.mapM fun (f : Field) => (do pure (f.offset, ← sizeOf f.type) : Sem (Nat × Nat))).run P w = .ok pl w) ∧ ∀ i, i < zs.length → pl[i]? = some (i, 1)

theorem x_build {P : Program} {S : World → Prop} {L : List (Nat × Value)} {d : Option Tmp} {t : TypeId} {ps : List (Nat × Operand)} {vs : List (Nat × Value)} {zs : List Value} {ty : TypeId} {pos : String} {af : Array Edge} {g : Option (Nat × Bool)} (ht : TB P t zs) (he : evp L ps = some vs) (hv : ∀ p ∈ vs, p.1 < zs.length ∧ p.2.oneCell' = true) : XS P S L ⟨d, .build t ps.toArray, ty, pos, af, g⟩ (.agg (setP zs vs).toArray) := fun _ a w hE _ => by
  obtain ⟨fs, pl, h1, h2, h3⟩ := ht.under
  obtain ⟨i, z, e1, e2, e3, e4⟩ := ht.tv.info
  have hf := fill_one h3 vs zs rfl hv
  have hm := evp_map hE ps vs he
  have hz : (zeroValue t).run P w = .ok z w := by simp [zeroValue, typeInfo, e1, e2]
  simp only [execOp, Instr.build, List.map_toArray, hm, Sem.run_bind, hz, Result.andThen_ok, run_underlying h1, h2 w, e4]
  simp [hf]

theorem foldl_setAll (off : Nat) : ∀ (vs : List Value) (k : Nat) (cs : Array Value), (vs.zipIdx k).foldl (fun cs (p : Value × Nat) => cs.setIfInBounds (off + p.2) p.1) cs = setAll cs (off + k) vs
  | [], _, _ => rfl
  | v :: vs, k, cs => by
    rw [List.zipIdx_cons, List.foldl_cons, foldl_setAll off vs (k + 1)]
    rfl

theorem setAll_split (pre mid post vs : List Value) (h : mid.length = vs.length) : setAll (pre ++ mid ++ post).toArray pre.length vs = (pre ++ vs ++ post).toArray := by
  apply Array.ext_getElem?
  intro i
  rw [get_setAll _ _ _ _ (by simp; omega)]
  by_cases h1 : pre.length ≤ i ∧ i < pre.length + vs.length
  · rw [if_pos h1]
    simp only [List.getElem?_toArray]
    rw [List.append_assoc, List.getElem?_append_right h1.1, List.getElem?_append_left (by omega)]
  · rw [if_neg h1]
    simp only [List.getElem?_toArray, List.append_assoc]
    by_cases h2 : i < pre.length
    · rw [List.getElem?_append_left h2, List.getElem?_append_left h2]
    · rw [List.getElem?_append_right (by omega), List.getElem?_append_right (by omega), List.getElem?_append_right (by omega), List.getElem?_append_right (by omega), h]

def numb (j : Nat) : List Value → List (Nat × Value)
  | [] => []
  | v :: vs => (j, v) :: numb (j + 1) vs

theorem fill_all (sz : Nat) : ∀ (vs : List Value) (j : Nat) (pre post : List Value), pre.length = j * sz → post.length = vs.length * sz → (∀ v ∈ vs, v.cells.size = sz) → Instr.fill (fun i => some (i * sz, sz)) (pre ++ post).toArray (numb j vs) = some (pre ++ (vs.map fun v => v.cells.toList).flatten).toArray
  | [], j, pre, post, _, h2, _ => by
    have : post = [] := List.eq_nil_of_length_eq_zero (by simpa using h2)
    subst this; simp [numb, Instr.fill]
  | v :: vs, j, pre, post, h1, h2, h3 => by
    have hv := h3 v (by simp)
    rw [List.length_cons, Nat.succ_mul] at h2
    have hsp : post = post.take sz ++ post.drop sz := (List.take_append_drop sz post).symm
    have hl : (post.take sz).length = v.cells.toList.length := by rw [List.length_take]; simp [hv]; omega
    have hset := setAll_split pre (post.take sz) (post.drop sz) v.cells.toList hl
    have ih := fill_all sz vs (j + 1) (pre ++ v.cells.toList) (post.drop sz) (by simp [h1, hv, Nat.succ_mul]) (by rw [List.length_drop]; omega) (fun u hu => h3 u (by simp [hu]))
    have hfold : v.cells.zipIdx.foldl (fun cs (p : Value × Nat) => cs.setIfInBounds (j * sz + p.2) p.1) (pre ++ post).toArray = (pre ++ v.cells.toList ++ post.drop sz).toArray := by
      rw [← Array.foldl_toList, Array.toList_zipIdx, foldl_setAll, Nat.add_zero, ← h1, ← hset, List.append_assoc, ← hsp]
    have hle : ¬ ((pre ++ post).toArray.size < j * sz + sz) := by simp; omega
    have hc : (v.cells.size ≠ sz || decide (j * sz + v.cells.size > (pre ++ post).toArray.size)) = false := by
      rw [hv]; simp; omega
    simp only [numb, Instr.fill]
    rw [if_neg (by rw [hc]; simp)]
    rw [show (v.cells.zipIdx.foldl (fun cs x => match x with | (c, j_1) => cs.setIfInBounds (j * sz + j_1) c) (pre ++ post).toArray) = (pre ++ v.cells.toList ++ post.drop sz).toArray from hfold, ih]
    simp

/-- A slice literal, all of its elements given. -/
theorem run_lit {P : Program} {n m : Nat} {a : Act} {L : List (Nat × Value)} {w : World} {t e : TypeId} {sz by_ : Nat} {ps : List (Nat × Operand)} {vs : List Value} {cs : List Value} {d : Option Tmp} {ty : TypeId} {pos : String} {af : Array Edge} {g : Option (Nat × Bool)} (hT : TSl P t e sz by_) (hE : Env n L a) (he : evp L ps = some (numb 0 vs)) (hm : vs.length = m) (hv : ∀ v ∈ vs, v.cells.size = sz) (hcs : (vs.map fun v => v.cells.toList).flatten = cs) (hb : m * sz ≤ 16777216) :
    (execOp a.eval ⟨d, .buildSlice t m ps.toArray, ty, pos, af, g⟩).run P w = .ok (.value (.slice (some ⟨w.heap.size, 0, none⟩) m m)) (w.alloc (.cells cs.toArray e)) := by
  obtain ⟨i, z, e1, e2, e3, e4, e5⟩ := hT.info
  subst hm hcs
  have hE' := evp_map hE ps _ he
  have hb' : ¬ (vs.length * i.size > 2 ^ 24) := by rw [e3]; omega
  have key : ∀ zero : Array Value, Instr.fill (fun i_1 => some (i_1 * i.size, i.size)) ((Array.range (vs.length * i.size)).map (zero[· % zero.size]!)) (numb 0 vs) = some (vs.map fun v => v.cells.toList).flatten.toArray := by
    intro zero
    have := fill_all sz vs 0 [] ((Array.range (vs.length * i.size)).map (zero[· % zero.size]!)).toList (by simp) (by simp [e3]) hv
    simp only [List.nil_append, Array.toArray_toList] at this
    rw [e3] at this ⊢; exact this
  simp only [execOp, Instr.buildSlice, List.map_toArray, hE', Sem.run_bind, run_underlying hT.under, Result.andThen_ok, sizeOf, typeInfo, run_program, e1, Sem.run_pure, hb', if_false]
  by_cases h0 : vs.length * i.size = 0
  · simp [h0, newRow] at key ⊢
    have := key #[]
    simp at this
    simp [this]
  · simp [h0, zeroValue, typeInfo, e1, e2, newRow, key]

theorem lkI {t : Nat} {L : List (Nat × Value)} {q : IntKind} {x y : Int} (h : lk t L = some (.int q x)) (e : x = y) : lk t L = some (.int q y) := e ▸ h

theorem Held.to {M : Nat → Prop} {w0 : World} {rs rs' : List Res} {w : World} (h : Held M w0 rs w) (e : rs = rs') : Held M w0 rs' w := e ▸ h

theorem Held.flatO {M : Nat → Prop} {w0 : World} {rs : List Res} {w : World} (h : Held M w0 rs w) {α : Type} {E : Enc α} {cs : List Value} {x : α} (ho : ∀ W, E.O W Nob cs x) : Held M w0 (rO E Nob cs x :: rs) w := h.new (Below.refl _ _) (rO E Nob cs x) (ho w) fun _ h => h.elim

theorem oPrN {α β : Type} {E : Enc α} {F : Enc β} {w : World} {c1 c2 : List Value} {x : α} {y : β} (h1 : E.O w Nob c1 x) (h2 : F.O w Nob c2 y) : (ePr E F).O w Nob (c1 ++ c2) (x, y) := ⟨c1, c2, Nob, Nob, rfl, fun b hb => hb.elim, fun b hb => hb, h1, h2⟩

/-- A literal slice reads as the list of what its elements read as. -/
theorem Held.slLit {M : Nat → Prop} {w0 w : World} {rs : List Res} {α : Type} {E : Enc α} {g : Nat} {t : TypeId} {css : List (List Value)} {xs : List α} (h : Held M w0 rs w) {i : Nat} (hi : rs[i]? = some (rBlk g t css.flatten)) (hl : css.length = xs.length) (hm : xs.length ≤ maxLen) (hR : ∀ (j : Nat) (x : α), xs[j]? = some x → ∃ es, css[j]? = some es ∧ E.R w (Old w) es x) : Sl E w (Old w) (some ⟨g, 0, none⟩) xs.length xs := by
  have hB : Blk w g t css.flatten.toArray := h.get hi
  refine ⟨Nat.le_refl _, hm, fun _ => ⟨g, 0, rfl, Blk.lt hB, fun j x hx => ?_⟩⟩
  obtain ⟨es, h1, h2⟩ := hR j x hx
  refine ⟨es, h2, fun q v hv => ?_⟩
  have hsz : ∀ es ∈ css, es.length = E.size := fun es hes => by
    obtain ⟨m, hm', rfl⟩ := List.getElem_of_mem hes
    obtain ⟨es', h3, h4⟩ := hR m xs[m] (List.getElem?_eq_getElem (by omega))
    rw [List.getElem?_eq_getElem hm'] at h3
    simp at h3; rw [h3]; exact E.len h4
  have hq : q < E.size := by
    have := (List.getElem?_eq_some_iff.1 hv).1
    rw [hsz es (List.mem_of_getElem? h1)] at this; exact this
  have := flatten_at E.size css hsz j es h1 q hq
  rw [Nat.zero_add, hB.cell, List.getElem?_toArray, this]; exact hv

theorem tv_parts {P : Program} {t : TypeId} {z : Value} {n : Nat} (h : (P.info? t).map (fun i => (i.zero, i.size)) = some (some z, n)) : ∃ i, P.info? t = some i ∧ i.zero = some z ∧ i.size = n := by
  cases hi : P.info? t with
  | none => rw [hi] at h; cases h
  | some i =>
    rw [hi] at h
    simp only [Option.map_some, Option.some.injEq, Prod.mk.injEq] at h
    exact ⟨i, rfl, h.1, h.2⟩

theorem ts_parts {P : Program} {t : TypeId} {z : Value} {n b : Nat} (h : (P.info? t).map (fun i => (i.zero, i.size, i.bytes)) = some (some z, n, b)) : ∃ i, P.info? t = some i ∧ i.zero = some z ∧ i.size = n ∧ i.bytes = b := by
  cases hi : P.info? t with
  | none => rw [hi] at h; cases h
  | some i =>
    rw [hi] at h
    simp only [Option.map_some, Option.some.injEq, Prod.mk.injEq] at h
    exact ⟨i, rfl, h.1, h.2.1, h.2.2⟩

theorem Env.castI {n t : Nat} {L : List (Nat × Value)} {a : Act} {q : IntKind} {x y : Int} (h : Env n L a) (hl : lk t L = some (.int q x)) (e : x = y) : Env n ((t, .int q y) :: L) a :=
  h.sub' fun s v hv => by
    simp only [lk] at hv
    by_cases hs : Nat.beq s t = true
    · rw [hs] at hv
      have hs' := Nat.eq_of_beq_eq_true hs
      subst hs' e
      simp at hv
      rw [hl, hv]
    · have hs' : Nat.beq s t = false := Bool.eq_false_iff.2 hs
      rw [hs'] at hv; exact hv

/-- A captured variable's cell, as a closure sees it. -/
theorem Held.capB {M : Nat → Prop} {w0 : World} {rs : List Res} {w W : World} {g : Nat} {t : TypeId} {cs : List Value} (h : Held M w0 rs w) (i : Nat) (hi : rs[i]? = some (rBlk g t cs)) (hb : Below w.heap.size w W) : ∀ j v, cs[j]? = some v → W.cell? ⟨g, 0 + j, none⟩ = some v := fun j v hv => by
  have hlt := (h.rng _ (List.mem_of_getElem? hi) g rfl).2
  rw [hb.cell (p := ⟨g, 0 + j, none⟩) hlt]
  exact c_blkN i hi w h j v hv

theorem Env.castS {n t m m' c : Nat} {A : Option Addr} {L : List (Nat × Value)} {a : Act} (h : Env n L a) (hl : lk t L = some (.slice A m c)) (e : m = m') : Env n ((t, .slice A m' c) :: L) a :=
  h.sub' fun s v hv => by
    simp only [lk] at hv
    by_cases hs : Nat.beq s t = true
    · rw [hs] at hv
      have hs' := Nat.eq_of_beq_eq_true hs
      subst hs' e
      simp at hv
      rw [hl, hv]
    · have hs' : Nat.beq s t = false := Bool.eq_false_iff.2 hs
      rw [hs'] at hv; exact hv

/-- What was there, outside M. -/
def Out (M : Nat → Prop) (w : World) (b : Nat) : Prop := b < w.heap.size ∧ ¬ M b

/-- The blocks of some parts. -/
def Foot (xs : List Res) (b : Nat) : Prop := ∃ r ∈ xs, r.S b

theorem Held.startM {w : World} {α : Type} {E : Enc α} {S : Nat → Prop} {cs : List Value} {x : α} (ho : E.O w S cs x) (hS : ∀ b, S b → b < w.heap.size) : Held S w [rO E S cs x] w :=
  ⟨Chg.refl _ _, (fun r hr => by simp at hr; subst hr; exact ho), (fun r hr b hb => by simp at hr; subst hr; exact ⟨.inl hb, hS b hb⟩), by simp⟩

theorem Held.focus {M0 : Nat → Prop} {w0 : World} {xs rs : List Res} {w : World} (h : Held M0 w0 (xs ++ rs) w) : Held (Foot xs) w xs w :=
  ⟨Chg.refl _ _, fun r hr => h.ok r (by simp [hr]), fun r hr b hb => ⟨.inl ⟨r, hr, hb⟩, (h.rng r (by simp [hr]) b hb).2⟩, (List.pairwise_append.1 h.sep).1⟩

theorem Held.back {M0 : Nat → Prop} {w0 : World} {xs ys rs : List Res} {w w' : World} (h : Held M0 w0 (xs ++ rs) w) (h' : Held (Foot xs) w ys w') : Held M0 w0 (ys ++ rs) w' where
  chg := by
    refine ⟨h'.chg.os.trans h.chg.os, h'.chg.tape.trans h.chg.tape, h'.chg.output.trans h.chg.output, Nat.le_trans h.chg.size h'.chg.size, fun k hk hM => ?_⟩
    refine (h'.chg.block k (Nat.lt_of_lt_of_le hk h.chg.size) ?_).trans (h.chg.block k hk hM)
    rintro ⟨r, hr, hb⟩
    rcases (h.rng r (by simp [hr]) k hb).1 with q | q
    · exact hM q
    · omega
  ok := by
    intro r hr
    rcases List.mem_append.1 hr with hr | hr
    · exact h'.ok r hr
    · refine r.loc w w' (fun b hb => h'.chg.block b (h.rng r (by simp [hr]) b hb).2 ?_) (h.ok r (by simp [hr]))
      rintro ⟨s, hs, hb'⟩
      exact (List.pairwise_append.1 h.sep).2.2 s hs r hr b hb' hb
  rng := by
    intro r hr b hb
    rcases List.mem_append.1 hr with hr | hr
    · obtain ⟨h1, h2⟩ := h'.rng r hr b hb
      refine ⟨?_, h2⟩
      rcases h1 with ⟨s, hs, hb'⟩ | h1
      · exact (h.rng s (by simp [hs]) b hb').1
      · exact .inr (Nat.le_trans h.size h1)
    · have h1 := h.rng r (by simp [hr]) b hb
      exact ⟨h1.1, Nat.lt_of_lt_of_le h1.2 h'.chg.size⟩
  sep := by
    refine List.pairwise_append.2 ⟨h'.sep, (List.pairwise_append.1 h.sep).2.1, fun r hr s hs b hb hb' => ?_⟩
    rcases (h'.rng r hr b hb).1 with ⟨q, hq, hb2⟩ | h1
    · exact (List.pairwise_append.1 h.sep).2.2 q hq s hs b hb2 hb'
    · have := (h.rng s (by simp [hs]) b hb').2; omega

theorem Held.oldM {M : Nat → Prop} {w0 : World} {rs : List Res} {w : World} {α : Type} {E : Enc α} {A : Option Addr} {c : Nat} {xs : List α} (h : Held M w0 rs w) (hs : Sl E w0 (Out M w0) A c xs) : Sl E w (Old w) A c xs :=
  (hs.keep (fun p hp => World.cell?_of_block (w := w0) (h.chg.block p.block hp.1 hp.2))).more fun b hb => Nat.lt_of_lt_of_le hb.1 h.chg.size

theorem Held.oldRM {M : Nat → Prop} {w0 : World} {rs : List Res} {w : World} {α : Type} {E : Enc α} {cs : List Value} {x : α} (h : Held M w0 rs w) (hs : E.R w0 (Out M w0) cs x) : E.R w (Old w) cs x :=
  E.more (E.keep hs (fun p hp => World.cell?_of_block (w := w0) (h.chg.block p.block hp.1 hp.2))) fun b hb => Nat.lt_of_lt_of_le hb.1 h.chg.size

/-- A borrowed slice, as a callee that rewrites xs sees it. -/
theorem Held.lend {w0 : World} {xs rs : List Res} {w : World} {α : Type} {E : Enc α} {A : Option Addr} {c : Nat} {zs : List α} (h : Held Nob w0 (xs ++ rs) w) (hs : Sl E w0 (Old w0) A c zs) : Sl E w (Out (Foot xs) w) A c zs :=
  (hs.keep (fun p hp => h.cell0 hp fun h => h)).more fun b hb => ⟨Nat.lt_of_lt_of_le hb h.size, by
    rintro ⟨r, hr, hb'⟩
    rcases (h.rng r (by simp [hr]) b hb').1 with q | q
    · exact q.elim
    · have : b < w0.heap.size := hb
      omega⟩

theorem Held.lendM {M : Nat → Prop} {w0 : World} {xs rs : List Res} {w : World} {α : Type} {E : Enc α} {A : Option Addr} {c : Nat} {zs : List α} (h : Held M w0 (xs ++ rs) w) (hs : Sl E w0 (Out M w0) A c zs) : Sl E w (Out (Foot xs) w) A c zs :=
  (hs.keep (fun p hp => h.cell0 hp.1 hp.2)).more fun b hb => ⟨Nat.lt_of_lt_of_le hb.1 h.size, by
    rintro ⟨r, hr, hb'⟩
    rcases (h.rng r (by simp [hr]) b hb').1 with q | q
    · exact hb.2 q
    · have : b < w0.heap.size := hb.1
      omega⟩

/-- A part that is owned, as a callee that rewrites other parts sees it. -/
theorem Held.lendR {M : Nat → Prop} {w0 : World} {xs rs : List Res} {w : World} {α : Type} {E : Enc α} {S : Nat → Prop} {cs : List Value} {x : α} (h : Held M w0 (xs ++ rs) w) {i : Nat} (hi : rs[i]? = some (rO E S cs x)) : E.R w (Out (Foot xs) w) cs x :=
  E.more (E.read (h.ok _ (List.mem_append_right _ (List.mem_of_getElem? hi)))) fun b hb => ⟨(h.rng _ (List.mem_append_right _ (List.mem_of_getElem? hi)) b hb).2, by
    rintro ⟨r, hr, hb'⟩
    exact (List.pairwise_append.1 h.sep).2.2 r hr _ (List.mem_of_getElem? hi) b hb' hb⟩

theorem Held.lendO {w0 : World} {xs rs : List Res} {w : World} {α : Type} {E : Enc α} {cs : List Value} {x : α} (h : Held Nob w0 (xs ++ rs) w) (hs : E.R w0 (Old w0) cs x) : E.R w (Out (Foot xs) w) cs x :=
  E.more (E.keep hs (fun p hp => h.cell0 hp fun h => h)) fun b hb => ⟨Nat.lt_of_lt_of_le hb h.size, by
    rintro ⟨r, hr, hb'⟩
    rcases (h.rng r (by simp [hr]) b hb').1 with q | q
    · exact q.elim
    · have : b < w0.heap.size := hb
      omega⟩

theorem Held.lendOM {M : Nat → Prop} {w0 : World} {xs rs : List Res} {w : World} {α : Type} {E : Enc α} {cs : List Value} {x : α} (h : Held M w0 (xs ++ rs) w) (hs : E.R w0 (Out M w0) cs x) : E.R w (Out (Foot xs) w) cs x :=
  E.more (E.keep hs (fun p hp => h.cell0 hp.1 hp.2)) fun b hb => ⟨Nat.lt_of_lt_of_le hb.1 h.size, by
    rintro ⟨r, hr, hb'⟩
    rcases (h.rng r (by simp [hr]) b hb').1 with q | q
    · exact hb.2 q
    · have : b < w0.heap.size := hb.1
      omega⟩

theorem Held.nfB {M : Nat → Prop} {w0 : World} {xs rs : List Res} {w : World} (h : Held M w0 (xs ++ rs) w) {i g : Nat} {t : TypeId} {cs : List Value} (hi : rs[i]? = some (rBlk g t cs)) : ¬ Foot xs g := by
  rintro ⟨r, hr, hb'⟩
  exact (List.pairwise_append.1 h.sep).2.2 r hr _ (List.mem_of_getElem? hi) g hb' rfl

theorem block_of_cell {w : World} {b o : Nat} {v : Value} (h : w.cell? ⟨b, o, none⟩ = some v) : b < w.heap.size := by
  rcases Nat.lt_or_ge b w.heap.size with h1 | h1
  · exact h1
  · exfalso
    unfold World.cell? at h
    simp [Array.getElem?_eq_none h1] at h

theorem Held.nfO {w0 : World} {xs rs : List Res} {w : World} (h : Held Nob w0 (xs ++ rs) w) {b o : Nat} {v : Value} (hc : w0.cell? ⟨b, o, none⟩ = some v) : ¬ Foot xs b := by
  rintro ⟨r, hr, hb'⟩
  rcases (h.rng r (by simp [hr]) b hb').1 with q | q
  · exact q.elim
  · have := block_of_cell hc
    omega

theorem Held.nfOM {M : Nat → Prop} {w0 : World} {xs rs : List Res} {w : World} (h : Held M w0 (xs ++ rs) w) {b o : Nat} {v : Value} (hM : ¬ M b) (hc : w0.cell? ⟨b, o, none⟩ = some v) : ¬ Foot xs b := by
  rintro ⟨r, hr, hb'⟩
  rcases (h.rng r (by simp [hr]) b hb').1 with q | q
  · exact hM q
  · have := block_of_cell hc
    omega

/-- The flat part in front given up. -/
theorem Held.unF {M : Nat → Prop} {w0 : World} {rs : List Res} {w : World} {α β : Type} {E : Enc α} {F : Enc β} {S : Nat → Prop} {v : Value} {cs : List Value} {x : α × β} (h1 : E.size = 1) (h : Held M w0 (rO (ePr E F) S (v :: cs) x :: rs) w) : Held M w0 (rO F S cs x.2 :: rs) w := by
  refine h.turn _ ?_ fun _ hb => hb
  rintro ⟨c1, c2, S1, S2, he, k1, k2, o1, o2⟩
  have hl := E.len (E.read o1)
  rw [h1] at hl
  obtain ⟨u, rfl⟩ := List.length_eq_one_iff.1 hl
  simp at he
  obtain ⟨_, rfl⟩ := he
  exact F.omore o2 k2

theorem Held.unP {M : Nat → Prop} {w0 : World} {rs : List Res} {w : World} {α β : Type} {E : Enc α} {F : Enc β} {S : Nat → Prop} {v : Value} {cs : List Value} {x : α × β} (h1 : E.size = 1) (h : Held M w0 (rO (ePr E F) S (v :: cs) x :: rs) w) : ∃ S1 S2, Held M w0 (rO E S1 [v] x.1 :: rO F S2 cs x.2 :: rs) w := by
  obtain ⟨c1, c2, S1, S2, he, k1, k2, o1, o2⟩ := h.ok _ (List.mem_cons_self)
  have hl := E.len (E.read o1)
  rw [h1] at hl
  obtain ⟨u, rfl⟩ := List.length_eq_one_iff.1 hl
  simp at he
  obtain ⟨rfl, rfl⟩ := he
  have hs := List.pairwise_cons.1 h.sep
  refine ⟨S1, S2, h.chg, ?_, ?_, ?_⟩
  · intro r hr
    simp only [List.mem_cons] at hr
    rcases hr with rfl | rfl | hr
    · exact o1
    · exact o2
    · exact h.ok r (by simp [hr])
  · intro r hr b hb
    simp only [List.mem_cons] at hr
    rcases hr with rfl | rfl | hr
    · exact h.rng _ (List.mem_cons_self) b (k1 b hb).1
    · exact h.rng _ (List.mem_cons_self) b (k2 b hb)
    · exact h.rng r (by simp [hr]) b hb
  · refine List.pairwise_cons.2 ⟨fun r hr b hb hb' => ?_, List.pairwise_cons.2 ⟨fun r hr b hb hb' => hs.1 r hr b (k2 b hb) hb', hs.2⟩⟩
    rcases List.mem_cons.1 hr with rfl | hr
    · exact (k1 b hb).2 hb'
    · exact hs.1 r hr b (k1 b hb).1 hb'

/-- An owned slice with one element laid open: its cells es; what the element owns (T) is held apart. -/
def Foc {α : Type} (E : Enc α) (w : World) (S : Nat → Prop) (b off c : Nat) (xs : List α) (k : Nat) (es : List Value) : Prop :=
  k < xs.length ∧ xs.length ≤ c ∧ c ≤ maxLen ∧ S b ∧ es.length = E.size ∧ ∃ (t : TypeId) (cur : Array Value) (T : Nat → Nat → Prop), Blk w b t cur ∧ (∀ i m, T i m → S m ∧ m ≠ b) ∧ (∀ i j m, T i m → T j m → i = j) ∧
    (∀ j v, es[j]? = some v → cur[off + k * E.size + j]? = some v) ∧ ∀ (i : Nat) (x : α), i ≠ k → xs[i]? = some x → ∃ us, E.O w (T i) us x ∧ ∀ j v, us[j]? = some v → cur[off + i * E.size + j]? = some v

theorem Foc.keep {α : Type} {E : Enc α} {w w' : World} {S : Nat → Prop} {b off c : Nat} {xs : List α} {k : Nat} {es : List Value} (h : Foc E w S b off c xs k es) (hk : ∀ b, S b → w'.heap[b]? = w.heap[b]?) : Foc E w' S b off c xs k es := by
  obtain ⟨h1, h2, h3, h4, h5, t, cur, T, hB, hT, hd, hc, hr⟩ := h
  refine ⟨h1, h2, h3, h4, h5, t, cur, T, (hk b h4).trans hB, hT, hd, hc, fun i x hi hx => ?_⟩
  obtain ⟨us, q1, q2⟩ := hr i x hi hx
  exact ⟨us, E.okeep q1 fun m hm => hk m (hT i m hm).1, q2⟩

def rFoc {α : Type} (E : Enc α) (S : Nat → Prop) (b off c : Nat) (xs : List α) (k : Nat) (es : List Value) : Res := ⟨S, fun w => Foc E w S b off c xs k es, fun _ _ h hf => hf.keep h⟩

theorem Held.open {M : Nat → Prop} {w0 : World} {rs : List Res} {w : World} {α : Type} {E : Enc α} {S : Nat → Prop} {A : Option Addr} {c : Nat} {xs : List α} (h : Held M w0 (rSo E S A c xs :: rs) w) {k : Nat} (hk : k < xs.length) :
    ∃ b off es T, A = some ⟨b, off, none⟩ ∧ E.R w (Old w) es xs[k] ∧ (∀ m, T m → S m ∧ m ≠ b) ∧ Held M w0 (rFoc E (fun m => S m ∧ ¬ T m) b off c xs k es :: rO E T es xs[k] :: rs) w := by
  have hso := so_of_o (h.ok _ (List.mem_cons_self))
  have hrng := h.rng _ (List.mem_cons_self)
  obtain ⟨b, off, t, cur, T, hA, hb, hB, hT, hd, hc⟩ := hso.2.2 (by intro e; subst e; simp at hk)
  obtain ⟨es, h1, h2⟩ := hc k xs[k] (List.getElem?_eq_getElem hk)
  have hs := List.pairwise_cons.1 h.sep
  refine ⟨b, off, es, T k, hA, E.more (E.read h1) (fun m hm => (hrng m (hT k m hm).1).2), fun m hm => hT k m hm, h.chg, ?_, ?_, ?_⟩
  · intro r hr
    simp only [List.mem_cons] at hr
    rcases hr with rfl | rfl | hr
    · refine ⟨hk, hso.1, hso.2.1, ⟨hb, fun hm => (hT k b hm).2 rfl⟩, E.len (E.read h1), t, cur, fun i m => i ≠ k ∧ T i m, hB, fun i m hm => ⟨⟨(hT i m hm.2).1, fun hm' => hm.1 (hd i k m hm.2 hm')⟩, (hT i m hm.2).2⟩, fun i j m h3 h4 => hd i j m h3.2 h4.2, h2, fun i x hi hx => ?_⟩
      obtain ⟨us, q1, q2⟩ := hc i x hx
      exact ⟨us, E.omore q1 fun m hm => ⟨hi, hm⟩, q2⟩
    · exact h1
    · exact h.ok r (by simp [hr])
  · intro r hr m hm
    simp only [List.mem_cons] at hr
    rcases hr with rfl | rfl | hr
    · exact hrng m hm.1
    · exact hrng m (hT k m hm).1
    · exact h.rng r (by simp [hr]) m hm
  · refine List.pairwise_cons.2 ⟨fun r hr m hm hm' => ?_, List.pairwise_cons.2 ⟨fun r hr m hm hm' => hs.1 r hr m (hT k m hm).1 hm', hs.2⟩⟩
    rcases List.mem_cons.1 hr with rfl | hr
    · exact hm.2 hm'
    · exact hs.1 r hr m hm.1 hm'

theorem Held.shut {M : Nat → Prop} {w0 : World} {rs : List Res} {w : World} {α : Type} {E : Enc α} {S T : Nat → Prop} {b off c k : Nat} {xs : List α} {es : List Value} {y : α} (h : Held M w0 (rFoc E S b off c xs k es :: rO E T es y :: rs) w) : Held M w0 (rSo E (fun m => S m ∨ T m) (some ⟨b, off, none⟩) c (xs.set k y) :: rs) w := by
  refine h.join _ (fun hf ho hd => ?_) fun _ hb => hb
  obtain ⟨h1, h2, h3, h4, h5, t, cur, T', hB, hT, hd', hc, hr⟩ := hf
  refine oSl ⟨by rw [List.length_set]; exact h2, h3, fun _ => ⟨b, off, t, cur, fun i m => (i = k ∧ T m) ∨ (i ≠ k ∧ T' i m), rfl, .inl h4, hB, ?_, ?_, fun i x hx => ?_⟩⟩
  · rintro i m (⟨_, hm⟩ | ⟨_, hm⟩)
    · exact ⟨.inr hm, fun e => hd b h4 (e ▸ hm)⟩
    · exact ⟨.inl (hT i m hm).1, (hT i m hm).2⟩
  · rintro i j m (⟨hi, hm⟩ | ⟨hi, hm⟩) (⟨hj, hm'⟩ | ⟨hj, hm'⟩)
    · rw [hi, hj]
    · exact absurd hm (hd m (hT j m hm').1)
    · exact absurd hm' (hd m (hT i m hm).1)
    · exact hd' i j m hm hm'
  · by_cases e : i = k
    · subst e
      rw [List.getElem?_set_self h1] at hx
      simp at hx; subst hx
      exact ⟨es, E.omore ho fun m hm => .inl ⟨rfl, hm⟩, hc⟩
    · rw [List.getElem?_set_ne (fun h => e h.symm)] at hx
      obtain ⟨us, q1, q2⟩ := hr i x e hx
      exact ⟨us, E.omore q1 fun m hm => .inr ⟨e, hm⟩, q2⟩

theorem Held.relen {M : Nat → Prop} {w0 : World} {rs : List Res} {w : World} {α : Type} {E : Enc α} {S : Nat → Prop} {A : Option Addr} {c n : Nat} {xs : List α} (h : Held M w0 (rSo E S A c xs :: rs) w) (hn : xs.length = n) : Held M w0 (rO (eSl E) S [.slice A n c] xs :: rs) w := hn ▸ h

theorem Held.lt {M : Nat → Prop} {w0 : World} {rs : List Res} {w : World} (h : Held M w0 rs w) {i : Nat} {r : Res} (hi : rs[i]? = some r) : ∀ b, r.S b → b < w.heap.size := fun b hb => (h.rng r (List.mem_of_getElem? hi) b hb).2

/-- What a callee made, beside what is held. -/
theorem Held.app {M : Nat → Prop} {w0 : World} {rs qs : List Res} {w w' : World} (h : Held M w0 rs w) (h' : Held Nob w qs w') : Held M w0 (qs ++ rs) w' where
  chg := (h.on h'.below).chg
  ok := by
    intro r hr
    rcases List.mem_append.1 hr with hr | hr
    · exact h'.ok r hr
    · exact (h.on h'.below).ok r hr
  rng := by
    intro r hr b hb
    rcases List.mem_append.1 hr with hr | hr
    · have h1 := h'.rng r hr b hb
      exact ⟨.inr (Nat.le_trans h.size (h1.1.resolve_left fun q => q.elim)), h1.2⟩
    · exact (h.on h'.below).rng r hr b hb
  sep := by
    refine List.pairwise_append.2 ⟨h'.sep, h.sep, fun r hr s hs b hb hb' => ?_⟩
    have h1 := (h'.rng r hr b hb).1.resolve_left fun q => q.elim
    have h2 := (h.rng s hs b hb').2
    omega

/-- Held only if p holds. -/
def rIf (p : Prop) (r : Res) : Res := ⟨r.S, fun w => p → r.φ w, fun w w' h hp hq => r.loc w w' h (hp hq)⟩

theorem Held.toIf {M : Nat → Prop} {w0 : World} {rs : List Res} {r : Res} {w : World} (h : Held M w0 (r :: rs) w) (p : Prop) : Held M w0 (rIf p r :: rs) w :=
  h.turn (rIf p r) (fun hr _ => hr) fun _ h => h

theorem Held.ofIf {M : Nat → Prop} {w0 : World} {rs : List Res} {r : Res} {w : World} {p : Prop} (h : Held M w0 (rIf p r :: rs) w) (hp : p) : Held M w0 (r :: rs) w :=
  h.turn r (fun hr => hr hp) fun _ h => h

theorem Held.noIf {M : Nat → Prop} {w0 : World} {rs : List Res} {w : World} {p : Prop} (h : Held M w0 rs w) {α : Type} {E : Enc α} {A : Option Addr} {c : Nat} {xs : List α} (r : Res) (hp : ¬ p) (hr : r = rSo E Nob A c xs := by rfl) : Held M w0 (rIf p r :: rs) w := by
  subst hr
  exact h.new (Below.refl _ _) (rIf p (rSo E Nob A c xs)) (fun hq => absurd hq hp) fun _ h => h.elim

abbrev bs (l : List UInt8) : ByteArray := ⟨l.toArray⟩

theorem bs_size (l : List UInt8) : (bs l).size = l.length := by simp [bs, ByteArray.size]

theorem bs_toList (l : List UInt8) : (bs l).toList = l := by rw [Go.Lib.toList_data]

theorem bs_app (a b : List UInt8) : bs a ++ bs b = bs (a ++ b) := by
  rw [ByteArray.mk_append_mk]

theorem bs_eta (s : ByteArray) : bs s.data.toList = s := by cases s; simp

/-- A byte of a row of bytes. -/
def eByte : Enc Int where
  size := 1
  pos := Nat.zero_lt_one
  R := fun _ _ cs x => cs = [.int .u8 x] ∧ 0 ≤ x ∧ x ≤ 255
  len := by rintro _ _ _ _ ⟨rfl, _⟩; rfl
  keep := fun h _ => h
  more := fun h _ => h
  O := fun _ _ cs x => cs = [.int .u8 x] ∧ 0 ≤ x ∧ x ≤ 255
  read := fun h => h
  okeep := fun h _ => h
  omore := fun h _ => h

theorem oY {w : World} {S : Nat → Prop} {x : Int} (h : 0 ≤ x ∧ x ≤ 255) : eByte.O w S [.int .u8 x] x := ⟨rfl, h⟩

theorem x_sadd {P : Program} {S : World → Prop} {L : List (Nat × Value)} {d : Option Tmp} {t t' : TypeId} {x y : Operand} {m k : List UInt8} {ty : TypeId} {pos : String} {af : Array Edge} {g : Option (Nat × Bool)} (hx : ev L x = some (.string (bs m))) (hy : ev L y = some (.string (bs k))) (h : m.length + k.length ≤ 9223372036854775807) : XS P S L ⟨d, .binOp .add t x y t', ty, pos, af, g⟩ (.string (bs (m ++ k))) := fun _ _ _ hE _ => by
  have e : ¬ (((bs m).size + (bs k).size : Nat) : Int) > IntKind.i64.max := by
    rw [bs_size, bs_size]; show ¬ _ > (9223372036854775807 : Int); omega
  simp only [execOp, hE.ev hx, hE.ev hy, eqGuard, binOp, Op.stringOp, if_neg e, bs_app]; rfl

theorem beq_dec (m k : List UInt8) : (m == k) = decide (m = k) := by
  by_cases h : m = k <;> simp [h]

theorem x_sneqB {P : Program} {S : World → Prop} {L : List (Nat × Value)} {d : Option Tmp} {t t' : TypeId} {x y : Operand} {m k : List UInt8} {ty : TypeId} {pos : String} {af : Array Edge} {g : Option (Nat × Bool)} (hx : ev L x = some (.string (bs m))) (hy : ev L y = some (.string (bs k))) : XS P S L ⟨d, .binOp .neq t x y t', ty, pos, af, g⟩ (.bool (!decide (m = k))) := by
  have := x_sneq (P := P) (S := S) (d := d) (t := t) (t' := t') (ty := ty) (pos := pos) (af := af) (g := g) hx hy
  rwa [bs_toList, bs_toList, beq_dec] at this

theorem x_conv8 {P : Program} {S : World → Prop} {L : List (Nat × Value)} {d : Option Tmp} {s t : TypeId} {x : Operand} {q : IntKind} {m : Int} {ty : TypeId} {pos : String} {af : Array Edge} {g : Option (Nat × Bool)} {sd : TypeDesc} (hs : P.underlying s = some sd) (ht : P.underlying t = some (.int .u8)) (hx : ev L x = some (.int q m)) (h : 0 ≤ m ∧ m ≤ 255) : XS P S L ⟨d, .convert s t x, ty, pos, af, g⟩ (.int .u8 m) := fun _ _ _ hE _ => by
  have e : IntKind.u8.wrap m = m := IntWalk.u8_in _ h
  simp [execOp, hE.ev hx, convert, run_underlying hs, run_underlying ht, Conv.intToInt, e]

theorem loadCells_sl {P : Program} {w : World} {b off c : Nat} {S : Nat → Prop} {xs : List Int} (h : Sl eByte w S (some ⟨b, off, none⟩) c xs) : (loadCells ⟨b, off, none⟩ xs.length).run P w = .ok (xs.map (Value.int .u8)).toArray w := by
  have key : ∀ (ys : List Int) (i : Nat) (acc : Array Value), (∀ (j : Nat) (y : Int), ys[j]? = some y → w.cell? ⟨b, off + (i + j), none⟩ = some (.int .u8 y)) → (loadCellsFrom ⟨b, off, none⟩ i ys.length acc).run P w = .ok (acc ++ (ys.map (Value.int .u8)).toArray) w := by
    intro ys
    induction ys with
    | nil => intro i acc _; simp [loadCellsFrom, Sem.run_pure]
    | cons y ys ih =>
      intro i acc hc
      have h0 := hc 0 y rfl
      rw [Nat.add_zero] at h0
      have hl : (load (Addr.add ⟨b, off, none⟩ i)).run P w = .ok (.int .u8 y) w := by
        rw [add_none]; simp [load, Sem.run, h0]
      have h1 := ih (i + 1) (acc.push (.int .u8 y)) fun j z hz => by
        have := hc (j + 1) z (by simpa using hz)
        rwa [show off + (i + (j + 1)) = off + (i + 1 + j) from by omega] at this
      simp only [List.length_cons, loadCellsFrom, Sem.run_bind, hl, Result.andThen_ok, h1]
      simp
  refine (key xs 0 #[] fun j y hy => ?_).trans (by simp)
  have hj := (List.getElem?_eq_some_iff.1 hy).1
  obtain ⟨b', off', es, hA, _, hR, hc⟩ := h.at hj
  simp only [Option.some.injEq, Addr.mk.injEq, and_true] at hA
  obtain ⟨rfl, rfl⟩ := hA
  obtain ⟨rfl, _⟩ := hR
  have h2 := hc 0 _ rfl
  have h3 : xs[j] = y := by rw [List.getElem?_eq_getElem hj] at hy; exact Option.some.inj hy
  rw [h3] at h2
  rwa [show off + j * eByte.size + 0 = off + (0 + j) from by simp [eByte]] at h2

theorem push_bytes : ∀ (ns : List Int) (l : List UInt8), ns.foldl (fun r n => r.push (UInt8.ofNat n.toNat)) (bs l) = bs (l ++ Go.Lib.bytesOf ns)
  | [], l => by simp [Go.Lib.bytesOf]
  | n :: ns, l => by
    have e : (bs l).push (UInt8.ofNat n.toNat) = bs (l ++ [UInt8.ofNat n.toNat]) := by simp [bs, ByteArray.push]
    rw [List.foldl_cons, e, push_bytes ns]
    simp [Go.Lib.bytesOf]

theorem x_bytes {P : Program} {S : World → Prop} {L : List (Nat × Value)} {d : Option Tmp} {s t e : TypeId} {x : Operand} {A : Option Addr} {c : Nat} {xs : List Int} {ty : TypeId} {pos : String} {af : Array Edge} {g : Option (Nat × Bool)} (hs : P.underlying s = some (.slice e)) (he : P.underlying e = some (.int .u8)) (ht : P.underlying t = some .string) (hx : ev L x = some (.slice A xs.length c)) (hr : ∀ w, S w → Sl eByte w (Old w) A c xs) : XS P S L ⟨d, .convert s t x, ty, pos, af, g⟩ (.string (bs (Go.Lib.bytesOf xs))) := fun _ _ w hE hS => by
  have h := hr w hS
  have hb : (Conv.bytesToString (.slice A xs.length c)).run P w = .ok (.string (bs (Go.Lib.bytesOf xs))) w := by
    by_cases hn : xs = []
    · subst hn
      cases A with
      | none => rfl
      | some p =>
        have := run_bytesToString (P := P) w p 0 c [] rfl
        exact this
    · obtain ⟨b, off, rfl, _⟩ := h.2.2 hn
      have := run_bytesToString (P := P) w ⟨b, off, none⟩ xs.length c xs (loadCells_sl h)
      rw [this]
      have e2 := push_bytes xs []
      rw [List.nil_append] at e2
      rw [← e2]; rfl
  simp only [execOp, hE.ev hx, convert, Sem.run_bind, run_underlying hs, run_underlying ht, run_underlying he, Result.andThen_ok, hb]
  rfl

theorem c_ownY {M : Nat → Prop} {w0 : World} {rs : List Res} {S : Nat → Prop} {b off c k : Nat} {xs : List Int} {y : Int} (i : Nat) (hi : rs[i]? = some (rSo eByte S (some ⟨b, off, none⟩) c xs)) (hk : k < xs.length) (hy : xs[k] = y) : ∀ w, Held M w0 rs w → w.cell? ⟨b, off + k * 1, none⟩ = some (.int .u8 y) := fun w h => by
  obtain ⟨b', off', es, hA, _, hR, hc⟩ := (h.sl hi).at hk
  simp only [Option.some.injEq, Addr.mk.injEq, and_true] at hA
  obtain ⟨rfl, rfl⟩ := hA
  obtain ⟨rfl, _⟩ := hR
  have := hc 0 _ rfl
  rw [← hy]; exact this

theorem i_ownY {M : Nat → Prop} {w0 w : World} {rs : List Res} {S : Nat → Prop} {A : Option Addr} {c k : Nat} {xs : List Int} (h : Held M w0 rs w) (i : Nat) (hi : rs[i]? = some (rSo eByte S A c xs)) (hk : k < xs.length) : 0 ≤ xs[k] ∧ xs[k] ≤ 255 := by
  obtain ⟨b', off', es, hA, _, hR, hc⟩ := (h.sl hi).at hk
  exact hR.2

theorem x_conv32 {P : Program} {S : World → Prop} {L : List (Nat × Value)} {d : Option Tmp} {s t : TypeId} {x : Operand} {q : IntKind} {m : Int} {ty : TypeId} {pos : String} {af : Array Edge} {g : Option (Nat × Bool)} {sd : TypeDesc} (hs : P.underlying s = some sd) (ht : P.underlying t = some (.int .i32)) (hx : ev L x = some (.int q m)) (h : -2147483648 ≤ m ∧ m ≤ 2147483647) : XS P S L ⟨d, .convert s t x, ty, pos, af, g⟩ (.int .i32 m) := fun _ _ _ hE _ => by
  have e : IntKind.i32.wrap m = m := IntWalk.i32_in _ h
  simp [execOp, hE.ev hx, convert, run_underlying hs, run_underlying ht, Conv.intToInt, e]

/-- A builder in block b, its own blocks in S, holding the bytes l. -/
def BldIn (T e : TypeId) (B b : Nat) (S : Nat → Prop) (l : List UInt8) (w : World) : Prop :=
  Lib.IsBuilderF T e B b (Lib.byteCells l) w ∧ S b ∧ ∀ p v g, w.heap[b]? = some (.cells #[p, v] T (0, 0)) → v.ownBlock = some g → S g

theorem BldIn.loc {T e : TypeId} {B b : Nat} {S : Nat → Prop} {l : List UInt8} {w w' : World} (hs : ∀ k, S k → w'.heap[k]? = w.heap[k]?) (h : BldIn T e B b S l w) : BldIn T e B b S l w' := by
  obtain ⟨h1, h2, h3⟩ := h
  have key : ∀ p, Lib.BuilderAtF T e B b p (Lib.byteCells l) w → Lib.BuilderAtF T e B b p (Lib.byteCells l) w' := by
    rintro p ⟨hB, v, hb, hown, hne⟩
    refine ⟨hB, v, (hs b h2).trans hb, ⟨hown.1, ?_⟩, hne⟩
    rcases hown.2 with hn | ⟨g, cap, cur, fz, rfl, hbg, hg, rest⟩
    · exact .inl hn
    · exact .inr ⟨g, cap, cur, fz, rfl, hbg, (hs g (h3 _ _ g hb (by simp [Value.ownBlock]))).trans hg, rest⟩
  refine ⟨?_, h2, fun p v g hb hv => h3 p v g ((hs b h2).symm.trans hb) hv⟩
  rcases h1 with h | h
  · exact .inl (key _ h)
  · exact .inr (key _ h)

def rBldT (T e : TypeId) (B b : Nat) (S : Nat → Prop) (l : List UInt8) : Res := ⟨S, BldIn T e B b S l, fun _ _ hs h => BldIn.loc hs h⟩

theorem BldIn.mk {T e : TypeId} {B b : Nat} {l : List UInt8} {w : World} (h : Lib.IsBuilderF T e B b (Lib.byteCells l) w) : BldIn T e B b (Iv B w.heap.size) l w := by
  have hb : B ≤ b ∧ b < w.heap.size := by
    rcases h with h | h
    · exact ⟨h.1, h.lt⟩
    · exact ⟨h.1, h.lt⟩
  refine ⟨h, hb, fun p v g hh hv => ?_⟩
  have key : ∀ q, Lib.BuilderAtF T e B b q (Lib.byteCells l) w → Iv B w.heap.size g := by
    rintro q ⟨_, v', hb', hown, _⟩
    rw [hh] at hb'
    simp only [Option.some.injEq, Obj.cells.injEq, and_true] at hb'
    have e2 : v = v' := by
      have := congrArg (fun a : Array Value => a[1]?) hb'
      simpa using this
    subst e2
    exact hown.lt g hv
  rcases h with h | h
  · exact key _ h
  · exact key _ h

theorem Held.bldCall {T e : TypeId} {w0 w w' : World} {b : Nat} {S : Nat → Prop} {l l' : List UInt8} (h : Held Nob w0 [rBldT T e w0.heap.size b S l] w) (hb : Below w0.heap.size w w') (hi : Lib.IsBuilderF T e w0.heap.size b (Lib.byteCells l') w') : ∃ S', Held Nob w0 [rBldT T e w0.heap.size b S' l'] w' := by
  refine ⟨Iv w0.heap.size w'.heap.size, ?_⟩
  have hb2 : Below w0.heap.size w0 w' := h.below.trans hb
  exact ⟨.of_below hb2, by intro r hr; obtain rfl := List.mem_singleton.1 hr; exact BldIn.mk hi, by intro r hr; obtain rfl := List.mem_singleton.1 hr; exact fun k hk => ⟨.inr hk.1, hk.2⟩, List.pairwise_singleton _ _⟩

theorem Held.toBld {T e : TypeId} {w0 w : World} {b : Nat} {rs : List Res} (h : Held Nob w0 (rBlk b T [.pointer none, .slice none 0 0] :: rs) w) : ∃ S, Held Nob w0 [rBldT T e w0.heap.size b S []] w := by
  have hB : Blk w b T #[.pointer none, .slice none 0 0] := h.ok _ List.mem_cons_self
  have hr := h.rng _ (List.mem_cons_self) b rfl
  have hle : w0.heap.size ≤ b := hr.1.resolve_left fun x => x.elim
  have hi : Lib.IsBuilderF T e w0.heap.size b (Lib.byteCells []) w := .inl ⟨hle, _, hB, by simpa [Lib.byteCells] using World.ownsRowF_nil w w0.heap.size e 1, by simp [Value.ownBlock]⟩
  refine ⟨Iv w0.heap.size w.heap.size, ⟨h.chg, ?_, ?_, List.pairwise_singleton _ _⟩⟩
  · intro r hr; obtain rfl := List.mem_singleton.1 hr; exact BldIn.mk hi
  · intro r hr; obtain rfl := List.mem_singleton.1 hr; exact fun k hk => ⟨.inr hk.1, hk.2⟩

theorem Held.isBld {T e : TypeId} {M : Nat → Prop} {w0 w : World} {B b : Nat} {S : Nat → Prop} {l : List UInt8} {rs : List Res} (h : Held M w0 (rBldT T e B b S l :: rs) w) : Lib.IsBuilderF T e B b (Lib.byteCells l) w := (h.ok _ List.mem_cons_self : BldIn T e B b S l w).1

theorem byteCells_app (a b : List UInt8) : Lib.byteCells (a ++ b) = Lib.byteCells a ++ Lib.byteCells b := by simp [Lib.byteCells]

theorem byteCells_len (a : List UInt8) : (Lib.byteCells a).length = a.length := by simp [Lib.byteCells]

theorem runeCells_ascii {r : Int} (h0 : 0 ≤ r) (h1 : r < 128) : Lib.runeCells r = Lib.byteCells [UInt8.ofNat r.toNat] := by
  rw [← Lib.byteCells_encodeRune]
  unfold Lib.encodeRune Lib.encodeRuneZ
  rw [if_pos ⟨h0, by omega⟩]
  simp [Lib.byteCells]

theorem x_add32 {P : Program} {S : World → Prop} {L : List (Nat × Value)} {d : Option Tmp} {t t' : TypeId} {x y : Operand} {m k : Int} {ty : TypeId} {pos : String} {af : Array Edge} {g : Option (Nat × Bool)} (hx : ev L x = some (.int .i32 m)) (hy : ev L y = some (.int .i32 k)) (h : -2147483648 ≤ m + k ∧ m + k ≤ 2147483647) : XS P S L ⟨d, .binOp .add t x y t', ty, pos, af, g⟩ (.int .i32 (m + k)) := fun _ _ _ hE _ => by
  have e : IntKind.i32.wrap (m + k) = m + k := IntWalk.i32_in _ h
  simp only [execOp, hE.ev hx, hE.ev hy, eqGuard, binOp, Op.intArith, e]; rfl

/-- What a package-level variable holds stays when only new blocks come and blocks behind it change. -/
theorem tab_below {P : Program} {w w' : World} {name : String} {k : IntKind} {zs : List Int} {g : Nat} (hg : P.globalNamed name = some g) (h : Lib.TabIs P w name k zs) (hb : Below w.heap.size w w') : Lib.TabIs P w' name k zs := by
  unfold Lib.TabIs World.var? at h ⊢
  rw [hg] at h ⊢
  simp only [Option.bind_some] at h ⊢
  have hlt : g < w.heap.size := by
    rcases Nat.lt_or_ge g w.heap.size with hlt | hge
    · exact hlt
    · rw [Array.getElem?_eq_none hge] at h; cases h
  rw [hb.block g hlt]
  exact h

/-- Two struct values compared. -/
theorem x_aeql {P : Program} {S : World → Prop} {L : List (Nat × Value)} {d : Option Tmp} {t t' : TypeId} {x y : Operand} {xs ys : Array Value} {r : Bool} {ty : TypeId} {pos : String} {af : Array Edge} {g : Option (Nat × Bool)} (hm : P.eqGuardType P.depth t = false) (he : ∀ w, (Op.equalIn 10000 t (.agg xs) (.agg ys)).run P w = .ok r w) (hx : ev L x = some (.agg xs)) (hy : ev L y = some (.agg ys)) : XS P S L ⟨d, .binOp .eql t x y t', ty, pos, af, g⟩ (.bool r) := fun _ _ w hE _ => by
  simp only [execOp, hE.ev hx, hE.ev hy, Sem.run_bind, run_eqGuard_agg w .eql t x y xs ys hm, Result.andThen_ok, run_eql_struct, he]
  rfl

theorem x_aneq {P : Program} {S : World → Prop} {L : List (Nat × Value)} {d : Option Tmp} {t t' : TypeId} {x y : Operand} {xs ys : Array Value} {r : Bool} {ty : TypeId} {pos : String} {af : Array Edge} {g : Option (Nat × Bool)} (hm : P.eqGuardType P.depth t = false) (he : ∀ w, (Op.equalIn 10000 t (.agg xs) (.agg ys)).run P w = .ok r w) (hx : ev L x = some (.agg xs)) (hy : ev L y = some (.agg ys)) : XS P S L ⟨d, .binOp .neq t x y t', ty, pos, af, g⟩ (.bool (!r)) := fun _ _ w hE _ => by
  simp only [execOp, hE.ev hx, hE.ev hy, Sem.run_bind, run_eqGuard_agg w .neq t x y xs ys hm, Result.andThen_ok, run_neq_struct, he]
  rfl

theorem tv_2 : TV Tryd.prog 2 false [.int .i64 0] := by
  obtain ⟨i, h1, h2, h3⟩ := tv_parts (show (Tryd.prog.info? 2).map (fun i => (i.zero, i.size)) = some (some (.int .i64 0), 1) from by kernel_rfl)
  exact ⟨⟨_, Tryd.underlying2, rfl⟩, i, _, h1, h2, h3, rfl⟩

theorem tv_5 : TV Tryd.prog 5 false [.int .u8 0] := by
  obtain ⟨i, h1, h2, h3⟩ := tv_parts (show (Tryd.prog.info? 5).map (fun i => (i.zero, i.size)) = some (some (.int .u8 0), 1) from by kernel_rfl)
  exact ⟨⟨_, Tryd.underlying5, rfl⟩, i, _, h1, h2, h3, rfl⟩

theorem tv_51 : TV Tryd.prog 51 false [.slice none 0 0] := by
  obtain ⟨i, h1, h2, h3⟩ := tv_parts (show (Tryd.prog.info? 51).map (fun i => (i.zero, i.size)) = some (some (.slice none 0 0), 1) from by kernel_rfl)
  exact ⟨⟨_, Tryd.underlying51, rfl⟩, i, _, h1, h2, h3, rfl⟩

theorem tv_70 : TV Tryd.prog 70 true [.int .i64 0, .int .i64 0, .slice none 0 0] := by
  obtain ⟨i, h1, h2, h3⟩ := tv_parts (show (Tryd.prog.info? 70).map (fun i => (i.zero, i.size)) = some (some (.agg #[.int .i64 0, .int .i64 0, .slice none 0 0]), 3) from by kernel_rfl)
  exact ⟨⟨_, Tryd.underlying70, rfl⟩, i, _, h1, h2, h3, rfl⟩

theorem tv_72 : TV Tryd.prog 72 true [.int .i64 0, .slice none 0 0, .slice none 0 0] := by
  obtain ⟨i, h1, h2, h3⟩ := tv_parts (show (Tryd.prog.info? 72).map (fun i => (i.zero, i.size)) = some (some (.agg #[.int .i64 0, .slice none 0 0, .slice none 0 0]), 3) from by kernel_rfl)
  exact ⟨⟨_, Tryd.underlying72, rfl⟩, i, _, h1, h2, h3, rfl⟩

theorem tv_76 : TV Tryd.prog 76 false [.slice none 0 0] := by
  obtain ⟨i, h1, h2, h3⟩ := tv_parts (show (Tryd.prog.info? 76).map (fun i => (i.zero, i.size)) = some (some (.slice none 0 0), 1) from by kernel_rfl)
  exact ⟨⟨_, Tryd.underlying76, rfl⟩, i, _, h1, h2, h3, rfl⟩

theorem tv_78 : TV Tryd.prog 78 true [.int .i64 0, .int .i64 0, .slice none 0 0] := by
  obtain ⟨i, h1, h2, h3⟩ := tv_parts (show (Tryd.prog.info? 78).map (fun i => (i.zero, i.size)) = some (some (.agg #[.int .i64 0, .int .i64 0, .slice none 0 0]), 3) from by kernel_rfl)
  exact ⟨⟨_, Tryd.underlying78, rfl⟩, i, _, h1, h2, h3, rfl⟩

theorem tv_80 : TV Tryd.prog 80 true [.int .i64 0, .slice none 0 0, .slice none 0 0] := by
  obtain ⟨i, h1, h2, h3⟩ := tv_parts (show (Tryd.prog.info? 80).map (fun i => (i.zero, i.size)) = some (some (.agg #[.int .i64 0, .slice none 0 0, .slice none 0 0]), 3) from by kernel_rfl)
  exact ⟨⟨_, Tryd.underlying80, rfl⟩, i, _, h1, h2, h3, rfl⟩

theorem tv_161 : TV Tryd.prog 161 true [.pointer none, .slice none 0 0] := by
  obtain ⟨i, h1, h2, h3⟩ := tv_parts (show (Tryd.prog.info? 161).map (fun i => (i.zero, i.size)) = some (some (.agg #[.pointer none, .slice none 0 0]), 2) from by kernel_rfl)
  exact ⟨⟨_, Tryd.underlying161, rfl⟩, i, _, h1, h2, h3, rfl⟩

theorem tv_179 : TV Tryd.prog 179 true [.int .i64 0, .int .i64 0, .int .i64 0] := by
  obtain ⟨i, h1, h2, h3⟩ := tv_parts (show (Tryd.prog.info? 179).map (fun i => (i.zero, i.size)) = some (some (.agg #[.int .i64 0, .int .i64 0, .int .i64 0]), 3) from by kernel_rfl)
  exact ⟨⟨_, Tryd.underlying179, rfl⟩, i, _, h1, h2, h3, rfl⟩

theorem ts_51 : TSl Tryd.prog 51 2 1 8 := by
  obtain ⟨i, h1, h2, h3, h4⟩ := ts_parts (show (Tryd.prog.info? 2).map (fun i => (i.zero, i.size, i.bytes)) = some (some (.int .i64 0), 1, 8) from by kernel_rfl)
  exact ⟨Tryd.underlying51, i, _, h1, h2, h3, h4, rfl⟩

theorem ts_76 : TSl Tryd.prog 76 179 3 24 := by
  obtain ⟨i, h1, h2, h3, h4⟩ := ts_parts (show (Tryd.prog.info? 179).map (fun i => (i.zero, i.size, i.bytes)) = some (some (.agg #[.int .i64 0, .int .i64 0, .int .i64 0]), 3, 24) from by kernel_rfl)
  exact ⟨Tryd.underlying76, i, _, h1, h2, h3, h4, rfl⟩

theorem fa_78_0 : ∀ b o w, (Instr.fieldAt 78 (.pointer (some ⟨b, o, none⟩)) 0).run Tryd.prog w = .ok (.pointer (some ⟨b, o + 0, none⟩)) w := by
  obtain ⟨i, z, h1, _, h3, _⟩ := tv_2.info
  exact fun b o w => fieldAt_of (f := 0) Tryd.underlying78 rfl h1 (by rw [h3]; decide) b o w

theorem fa_78_1 : ∀ b o w, (Instr.fieldAt 78 (.pointer (some ⟨b, o, none⟩)) 1).run Tryd.prog w = .ok (.pointer (some ⟨b, o + 1, none⟩)) w := by
  obtain ⟨i, z, h1, _, h3, _⟩ := tv_2.info
  exact fun b o w => fieldAt_of (f := 1) Tryd.underlying78 rfl h1 (by rw [h3]; decide) b o w

theorem fa_78_2 : ∀ b o w, (Instr.fieldAt 78 (.pointer (some ⟨b, o, none⟩)) 2).run Tryd.prog w = .ok (.pointer (some ⟨b, o + 2, none⟩)) w := by
  obtain ⟨i, z, h1, _, h3, _⟩ := tv_76.info
  exact fun b o w => fieldAt_of (f := 2) Tryd.underlying78 rfl h1 (by rw [h3]; decide) b o w

theorem fa_80_0 : ∀ b o w, (Instr.fieldAt 80 (.pointer (some ⟨b, o, none⟩)) 0).run Tryd.prog w = .ok (.pointer (some ⟨b, o + 0, none⟩)) w := by
  obtain ⟨i, z, h1, _, h3, _⟩ := tv_2.info
  exact fun b o w => fieldAt_of (f := 0) Tryd.underlying80 rfl h1 (by rw [h3]; decide) b o w

theorem fa_80_1 : ∀ b o w, (Instr.fieldAt 80 (.pointer (some ⟨b, o, none⟩)) 1).run Tryd.prog w = .ok (.pointer (some ⟨b, o + 1, none⟩)) w := by
  obtain ⟨i, z, h1, _, h3, _⟩ := tv_51.info
  exact fun b o w => fieldAt_of (f := 1) Tryd.underlying80 rfl h1 (by rw [h3]; decide) b o w

theorem fa_80_2 : ∀ b o w, (Instr.fieldAt 80 (.pointer (some ⟨b, o, none⟩)) 2).run Tryd.prog w = .ok (.pointer (some ⟨b, o + 2, none⟩)) w := by
  obtain ⟨i, z, h1, _, h3, _⟩ := tv_51.info
  exact fun b o w => fieldAt_of (f := 2) Tryd.underlying80 rfl h1 (by rw [h3]; decide) b o w

theorem ts_159 : TSl Tryd.prog 159 5 1 1 := by
  obtain ⟨i, h1, h2, h3, h4⟩ := ts_parts (show (Tryd.prog.info? 5).map (fun i => (i.zero, i.size, i.bytes)) = some (some (.int .u8 0), 1, 1) from by kernel_rfl)
  exact ⟨Tryd.underlying159, i, _, h1, h2, h3, h4, rfl⟩

theorem fa_179_0 : ∀ b o w, (Instr.fieldAt 179 (.pointer (some ⟨b, o, none⟩)) 0).run Tryd.prog w = .ok (.pointer (some ⟨b, o + 0, none⟩)) w := by
  obtain ⟨i, z, h1, _, h3, _⟩ := tv_2.info
  exact fun b o w => fieldAt_of (f := 0) Tryd.underlying179 rfl h1 (by rw [h3]; decide) b o w

theorem fa_179_1 : ∀ b o w, (Instr.fieldAt 179 (.pointer (some ⟨b, o, none⟩)) 1).run Tryd.prog w = .ok (.pointer (some ⟨b, o + 1, none⟩)) w := by
  obtain ⟨i, z, h1, _, h3, _⟩ := tv_2.info
  exact fun b o w => fieldAt_of (f := 1) Tryd.underlying179 rfl h1 (by rw [h3]; decide) b o w

theorem fa_179_2 : ∀ b o w, (Instr.fieldAt 179 (.pointer (some ⟨b, o, none⟩)) 2).run Tryd.prog w = .ok (.pointer (some ⟨b, o + 2, none⟩)) w := by
  obtain ⟨i, z, h1, _, h3, _⟩ := tv_2.info
  exact fun b o w => fieldAt_of (f := 2) Tryd.underlying179 rfl h1 (by rw [h3]; decide) b o w

theorem tb_179 : TB Tryd.prog 179 [.int .i64 0, .int .i64 0, .int .i64 0] := by
  refine ⟨tv_179, _, #[(0, 1), (1, 1), (2, 1)], Tryd.underlying179, fun w => ?_, fun i hi => ?_⟩
  · obtain ⟨i2, z2, h2, _, s2, _⟩ := tv_2.info; simp only [List.length_cons, List.length_nil] at s2
    simp [sizeOf, typeInfo, h2, s2]
  · simp only [List.length_cons, List.length_nil] at hi
    match i, hi with
    | 0, _ => rfl
    | 1, _ => rfl
    | 2, _ => rfl

theorem en_39 : ∀ args w, (callFunc 39 args).run Tryd.prog w = .ok (.enter 39 args) w := enters_of Tryd.func39 (by kernel_rfl) rfl

theorem en_40 : ∀ args w, (callFunc 40 args).run Tryd.prog w = .ok (.enter 40 args) w := enters_of Tryd.func40 (by kernel_rfl) rfl

theorem en_41 : ∀ args w, (callFunc 41 args).run Tryd.prog w = .ok (.enter 41 args) w := enters_of Tryd.func41 (by kernel_rfl) rfl

theorem en_42 : ∀ args w, (callFunc 42 args).run Tryd.prog w = .ok (.enter 42 args) w := enters_of Tryd.func42 (by kernel_rfl) rfl

theorem en_43 : ∀ args w, (callFunc 43 args).run Tryd.prog w = .ok (.enter 43 args) w := enters_of Tryd.func43 (by kernel_rfl) rfl

theorem en_44 : ∀ args w, (callFunc 44 args).run Tryd.prog w = .ok (.enter 44 args) w := enters_of Tryd.func44 (by kernel_rfl) rfl

theorem en_45 : ∀ args w, (callFunc 45 args).run Tryd.prog w = .ok (.enter 45 args) w := enters_of Tryd.func45 (by kernel_rfl) rfl

theorem en_46 : ∀ args w, (callFunc 46 args).run Tryd.prog w = .ok (.enter 46 args) w := enters_of Tryd.func46 (by kernel_rfl) rfl

theorem en_52 : ∀ args w, (callFunc 52 args).run Tryd.prog w = .ok (.enter 52 args) w := enters_of Tryd.func52 (by kernel_rfl) rfl

theorem en_54 : ∀ args w, (callFunc 54 args).run Tryd.prog w = .ok (.enter 54 args) w := enters_of Tryd.func54 (by kernel_rfl) rfl

theorem en_60 : ∀ args w, (callFunc 60 args).run Tryd.prog w = .ok (.enter 60 args) w := enters_of Tryd.func60 (by kernel_rfl) rfl

theorem en_88 : ∀ args w, (callFunc 88 args).run Tryd.prog w = .ok (.enter 88 args) w := enters_of Tryd.func88 (by kernel_rfl) rfl

theorem en_89 : ∀ args w, (callFunc 89 args).run Tryd.prog w = .ok (.enter 89 args) w := enters_of Tryd.func89 (by kernel_rfl) rfl

theorem en_90 : ∀ args w, (callFunc 90 args).run Tryd.prog w = .ok (.enter 90 args) w := enters_of Tryd.func90 (by kernel_rfl) rfl

theorem en_92 : ∀ args w, (callFunc 92 args).run Tryd.prog w = .ok (.enter 92 args) w := enters_of Tryd.func92 (by kernel_rfl) rfl

theorem en_93 : ∀ args w, (callFunc 93 args).run Tryd.prog w = .ok (.enter 93 args) w := enters_of Tryd.func93 (by kernel_rfl) rfl

theorem en_94 : ∀ args w, (callFunc 94 args).run Tryd.prog w = .ok (.enter 94 args) w := enters_of Tryd.func94 (by kernel_rfl) rfl

theorem en_103 : ∀ args w, (callFunc 103 args).run Tryd.prog w = .ok (.enter 103 args) w := enters_of Tryd.func103 (by kernel_rfl) rfl

theorem en_104 : ∀ args w, (callFunc 104 args).run Tryd.prog w = .ok (.enter 104 args) w := enters_of Tryd.func104 (by kernel_rfl) rfl

theorem en_108 : ∀ args w, (callFunc 108 args).run Tryd.prog w = .ok (.enter 108 args) w := enters_of Tryd.func108 (by kernel_rfl) rfl

theorem en_111 : ∀ args w, (callFunc 111 args).run Tryd.prog w = .ok (.enter 111 args) w := enters_of Tryd.func111 (by kernel_rfl) rfl

theorem en_127 : ∀ args w, (callFunc 127 args).run Tryd.prog w = .ok (.enter 127 args) w := enters_of Tryd.func127 (by kernel_rfl) rfl

theorem en_128 : ∀ args w, (callFunc 128 args).run Tryd.prog w = .ok (.enter 128 args) w := enters_of Tryd.func128 (by kernel_rfl) rfl

theorem en_129 : ∀ args w, (callFunc 129 args).run Tryd.prog w = .ok (.enter 129 args) w := enters_of Tryd.func129 (by kernel_rfl) rfl

theorem en_130 : ∀ args w, (callFunc 130 args).run Tryd.prog w = .ok (.enter 130 args) w := enters_of Tryd.func130 (by kernel_rfl) rfl

theorem en_132 : ∀ args w, (callFunc 132 args).run Tryd.prog w = .ok (.enter 132 args) w := enters_of Tryd.func132 (by kernel_rfl) rfl

theorem en_133 : ∀ args w, (callFunc 133 args).run Tryd.prog w = .ok (.enter 133 args) w := enters_of Tryd.func133 (by kernel_rfl) rfl

theorem en_134 : ∀ args w, (callFunc 134 args).run Tryd.prog w = .ok (.enter 134 args) w := enters_of Tryd.func134 (by kernel_rfl) rfl

theorem en_157 : ∀ args w, (callFunc 157 args).run Tryd.prog w = .ok (.enter 157 args) w := enters_of Tryd.func157 (by kernel_rfl) rfl

theorem en_158 : ∀ args w, (callFunc 158 args).run Tryd.prog w = .ok (.enter 158 args) w := enters_of Tryd.func158 (by kernel_rfl) rfl

theorem en_159 : ∀ args w, (callFunc 159 args).run Tryd.prog w = .ok (.enter 159 args) w := enters_of Tryd.func159 (by kernel_rfl) rfl

theorem en_160 : ∀ args w, (callFunc 160 args).run Tryd.prog w = .ok (.enter 160 args) w := enters_of Tryd.func160 (by kernel_rfl) rfl

theorem en_161 : ∀ args w, (callFunc 161 args).run Tryd.prog w = .ok (.enter 161 args) w := enters_of Tryd.func161 (by kernel_rfl) rfl

theorem en_162 : ∀ args w, (callFunc 162 args).run Tryd.prog w = .ok (.enter 162 args) w := enters_of Tryd.func162 (by kernel_rfl) rfl

theorem en_163 : ∀ args w, (callFunc 163 args).run Tryd.prog w = .ok (.enter 163 args) w := enters_of Tryd.func163 (by kernel_rfl) rfl

theorem en_166 : ∀ args w, (callFunc 166 args).run Tryd.prog w = .ok (.enter 166 args) w := enters_of Tryd.func166 (by kernel_rfl) rfl

theorem en_176 : ∀ args w, (callFunc 176 args).run Tryd.prog w = .ok (.enter 176 args) w := enters_of Tryd.func176 (by kernel_rfl) rfl

theorem en_184 : ∀ args w, (callFunc 184 args).run Tryd.prog w = .ok (.enter 184 args) w := enters_of Tryd.func184 (by kernel_rfl) rfl

theorem hmix : Tryd.prog.follows .mixedOrders = true := by kernel_rfl

theorem elem_Int64 : Elem Tryd.prog eInt 51 2 8 := by
  obtain ⟨i0, hi0, hz0, hz1, hz2⟩ := info_parts info_impl_Int64
  exact ⟨Tryd.underlying51, i0, _, hi0, hz0, hz1, hz2, rfl⟩

set_option maxHeartbeats 400000 in
theorem Clone_Int64 (A : Option Addr) (c : Nat) (xs : List Int) (w : World) (h : Sl eInt w (Old w) A c xs) (hsm : xs.length ≤ 1000000000000) :
    Calls Tryd.prog 135 #[.slice A xs.length c] w fun e w' => ∃ A' c', e = .returned (.slice A' xs.length c') ∧ So eInt w' (Fr w w') A' c' xs ∧ Below w.heap.size w w' := by
  have q22 : ∀ (w : World) (a : Option Addr) (n c n' c' : Nat), (binOp .eql 51 (.slice a n c) (.slice none n' c')).run Tryd.prog w = .ok (.bool a.isNone) w := fun w a n c n' c' => Lib.run_eql_slice_nil w _ _ a n c n' c' Tryd.underlying51
  cases A with
  | none =>
    have hx : xs = [] := Classical.byContradiction fun hn => by
      obtain ⟨b, off, hA, _⟩ := h.2.2 hn
      cases hA
    subst hx
    clear h
    go_enter Tryd.func135, Tryd.ntmps135
    go_wp2
    go_ret
    exact ⟨none, 0, rfl, So.nil (Nat.zero_le _), Below.refl _ _⟩
  | some ad =>
    have H := Lib.hid (h.on (below_alloc (Below.refl _ _) (.cells #[] 2))); clear h
    go_enter Tryd.func135, Tryd.ntmps135
    go_wp2_with (at_builtin; refine wpList_append_row flat_int elem_Int64 rfl _ _ rfl (base := w.heap.size) rfl (Row.empty (Nat.le_refl _)) rfl H.out (by simp only [List.length_nil]; unfold maxLen; omega) (by simp only [List.length_nil]; omega) (by simp) ?_)
    intro v' w1 hrow hgrow hat
    try rw [List.nil_append] at hrow
    obtain ⟨A', c', rfl, hso⟩ := hrow.so
    have HO := Lib.hid hso
    have HL : Hid (Below w.heap.size w w1) := ((Below.refl _ w).alloc (Nat.le_refl _) _).grown hgrow (by simp) (by intro k hk; simp [Value.ownBlock] at hk; omega)
    clear hrow hgrow hat hso
    go_wp2
    go_ret
    exact ⟨A', c', rfl, HO.out, HL.out⟩

/-- What the reversing loop has made after k rounds. -/
def RevTo (xs : List Int) (k : Nat) (ys : List Int) : Prop := ys.length = xs.length ∧ ∀ p, p < xs.length → ys[p]? = if p < k ∨ xs.length < p + k + 1 then xs[xs.length - 1 - p]? else xs[p]?

theorem revTo_zero (xs : List Int) : RevTo xs 0 xs := ⟨rfl, fun p hp => by rw [if_neg (by omega)]⟩

theorem revTo_end {xs ys : List Int} {k : Nat} (h : RevTo xs k ys) (hk : xs.length ≤ 2 * k + 1) : ys = xs.reverse := by
  apply List.ext_getElem?
  intro p
  by_cases hp : p < xs.length
  · rw [h.2 p hp, List.getElem?_reverse hp]
    split
    · rfl
    · rw [show xs.length - 1 - p = p from by omega]
  · rw [List.getElem?_eq_none (by rw [h.1]; omega), List.getElem?_eq_none (by simp; omega)]

theorem revTo_step {xs ys : List Int} {k m : Nat} (h : RevTo xs k ys) (hm : m + k + 1 = xs.length) (hkm : k < m) (h1 : k < ys.length) (h2 : m < ys.length) : RevTo xs (k + 1) ((ys.set k ys[m]).set m ys[k]) := by
  refine ⟨by simp [h.1], fun p hp => ?_⟩
  have hy : ∀ q (hq : q < ys.length), some ys[q] = ys[q]? := fun q hq => (List.getElem?_eq_getElem hq).symm
  by_cases e1 : p = m
  · subst e1
    rw [List.getElem?_set_self (by simpa using h2), hy, h.2 k (by omega), if_neg (by omega), if_pos (by omega), show xs.length - 1 - p = k from by omega]
  · rw [List.getElem?_set_ne (fun e => e1 e.symm)]
    by_cases e2 : p = k
    · subst e2
      rw [List.getElem?_set_self h1, hy, h.2 m (by omega), if_neg (by omega), if_pos (by omega), show xs.length - 1 - p = m from by omega]
    · rw [List.getElem?_set_ne (fun e => e2 e.symm), h.2 p hp]
      by_cases c : p < k ∨ xs.length < p + k + 1
      · rw [if_pos c, if_pos (by omega)]
      · rw [if_neg c, if_neg (by omega)]

set_option maxRecDepth 100000 in
set_option maxHeartbeats 2000000 in
theorem slices_Reverse (A : Option Addr) (c : Nat) (xs : List Int) (w : World) (S : Nat → Prop) (h : So eInt w S A c xs) (hS : ∀ b, S b → b < w.heap.size) :
    Calls Tryd.prog 136 #[.slice A xs.length c] w fun e w' => (∃ v, e = .returned v) ∧ So eInt w' S A c xs.reverse ∧ Chg S w w' := by
  have hlen := h.sl.len
  have H := Lib.hid h; clear h
  have HSS := Lib.hid hS; clear hS
  by_cases hx : xs.length = 0
  · have hx' : xs = [] := List.eq_nil_of_length_eq_zero hx
    subst hx'
    go_enter Tryd.func136, Tryd.ntmps136
    go_wp2
    go_loopw [2, 3] (fun s2 s3 wr => s2 = .int .i64 0 ∧ s3 = .int .i64 (-1) ∧ wr = w) (fun _ _ _ => 0)
    case atStart => exact ⟨rfl, rfl, rfl⟩
    case round =>
      obtain ⟨rfl, rfl, rfl⟩ := hrel
      go_wp2
      go_returns
      exact ⟨⟨_, rfl⟩, H.out, Chg.refl _ _⟩
  go_enter Tryd.func136, Tryd.ntmps136
  go_wp2
  go_loopw [2, 3] (fun s2 s3 wr => ∃ (k m : Nat) (ys : List Int), s2 = .int .i64 k ∧ s3 = .int .i64 m ∧ m + k + 1 = xs.length ∧ Hid (RevTo xs k ys) ∧ Hid (So eInt wr S A c ys) ∧ Hid (Chg S w wr)) (fun s2 _ _ => xs.length - (intOf s2).toNat)
  case atStart => exact ⟨0, xs.length - 1, xs, rfl, by go_num, by omega, revTo_zero xs, H, Chg.refl _ _⟩
  case round =>
    obtain ⟨k, m, ys, rfl, rfl, hkm, HR, HS, HG⟩ := hrel
    have hyl := HR.out.1
    by_cases hlt : k < m
    · have hltz : (k : Int) < (m : Int) := by omega
      have hk1 : k < ys.length := by omega
      have hm1 : m < ys.length := by omega
      obtain ⟨b, off, rfl, hb, ik, dk, fk⟩ := HS.out.getI hk1
      obtain ⟨b', off', hA, _, im, dm, fm⟩ := HS.out.getI hm1
      simp only [Option.some.injEq, Addr.mk.injEq, and_true] at hA
      obtain ⟨rfl, rfl⟩ := hA
      have hk2 : (k : Int) < (xs.length : Int) := by omega
      have hm2 : (m : Int) < (xs.length : Int) := by omega
      have HR2 := Lib.hid (revTo_step HR.out hkm hlt hk1 hm1)
      have HS2 := Lib.hid ((HS.out.setI hk1 im).setI (k := m) (by simpa using hm1) ik)
      have HG2 : Hid (Chg S w ((wr.setCell ⟨b, off + k, none⟩ (.int .i64 ys[m])).setCell ⟨b, off + m, none⟩ (.int .i64 ys[k]))) := (HG.out.set (by exact hb) _).set (by exact hb) _
      generalize ys[k] = yk at *
      generalize ys[m] = ym at *
      go_wp2_with fail
      go_region
      go_wp2
      go_roundw
      case rel => exact ⟨k + 1, m - 1, _, by go_num, by go_num, by omega, HR2.out, HS2.out.keep (fun _ _ => rfl), HG2.out.drew⟩
      case measure => simp [intOf]; omega
    · have hltz : ¬ (k : Int) < (m : Int) := by omega
      have HE : Hid (ys = xs.reverse) := revTo_end HR.out (by omega)
      go_wp2
      go_returns
      exact ⟨⟨_, rfl⟩, by rw [← HE.out]; exact HS.out, HG.out⟩

set_option maxHeartbeats 400000 in
theorem impl_reversed (A : Option Addr) (c : Nat) (xs : List Int) (w : World) (h : Sl eInt w (Old w) A c xs) (hsm : xs.length ≤ 1000000000000) :
    Calls Tryd.prog 94 #[.slice A xs.length c] w fun e w' => ∃ A' c', e = .returned (.slice A' xs.reverse.length c') ∧ So eInt w' (Fr w w') A' c' xs.reverse ∧ Below w.heap.size w w' := by
  have HC := Lib.hid (Clone_Int64 A c xs w h hsm); clear h
  go_enter Tryd.func94, Tryd.ntmps94
  go_wp2_with (first | (go_at_call 135; refine HC.out.mono ?_; rintro e w1 ⟨A1, c1, rfl, hso, hb⟩) | (go_at_call 136; refine (slices_Reverse _ _ xs _ _ hso (fun b hb => hb.2)).mono ?_; rintro e w2 ⟨⟨v, rfl⟩, hs2, hc2⟩))
  go_ret
  exact ⟨A1, c1, by rw [List.length_reverse]; rfl, hs2.more fun b hS => ⟨hS.1, Nat.lt_of_lt_of_le hS.2 hc2.size⟩, hb.trans (hc2.below hb.size fun b hS => hS.1)⟩

def outB (lo hi n : Int) : Bool := !withinB n lo hi

def allW (xs : List Int) (lo hi : Int) : Bool := !xs.any (outB lo hi)

theorem impl_allWithin (A : Option Addr) (c : Nat) (xs : List Int) (lo hi : Int) (w : World) (h : Sl eInt w (Old w) A c xs) :
    Calls Tryd.prog 54 #[.slice A xs.length c, .int .i64 lo, .int .i64 hi] w fun e w' => e = .returned (.bool (allW xs lo hi)) ∧ w = w' := by
  have hlen := h.len
  have H := Lib.hid h; clear h
  unfold allW
  go_enter Tryd.func54, Tryd.ntmps54
  go_wp2
  go_loop [8, 11] (fun _ i => ∃ k : Nat, k ≤ xs.length ∧ i = .int .i64 k ∧ Hid ((xs.take k).any (outB lo hi) = false)) (fun _ i => xs.length - (intOf i).toNat)
  case atStart => exact ⟨0, Nat.zero_le _, rfl, rfl⟩
  case round =>
    obtain ⟨k, hk, rfl, HN⟩ := hrel
    by_cases hlt : k < xs.length
    · have hltz : (k : Int) < (xs.length : Int) := by omega
      obtain ⟨b, off, es, rfl, hb, ⟨rfl, _⟩, hc⟩ := H.out.at1 rfl hlt
      have d0 : w.cell? ⟨b, off + k, none⟩ = some (.int .i64 xs[k]) := hc _ rfl
      clear hc
      have HT : Hid (outB lo hi xs[k] = true → xs.any (outB lo hi) = true) := fun e => any_hit hlt e
      have HS : Hid (outB lo hi xs[k] = false → (xs.take (k + 1)).any (outB lo hi) = false) := fun e => any_step hlt HN.out e
      generalize xs[k] = y at d0 HT HS
      cases q1 : withinB y lo hi
      · go_wp2_with (go_at_call 104; refine (impl_within _ _ _ _).mono ?_; rintro e w' ⟨rfl, rfl⟩; rw [q1])
        go_ret
        exact ⟨by rw [HT.out (by unfold outB; rw [q1]; rfl)]; rfl, rfl⟩
      · go_wp2_with (go_at_call 104; refine (impl_within _ _ _ _).mono ?_; rintro e w' ⟨rfl, rfl⟩; rw [q1])
        go_round
        case rel => exact ⟨k + 1, by omega, by go_num, HS.out (by unfold outB; rw [q1]; rfl)⟩
        case measure => simp [intOf]; omega
    · have hltz : ¬ (k : Int) < (xs.length : Int) := by omega
      obtain rfl : k = xs.length := by omega
      go_wp2
      go_ret
      have hn := HN.out
      rw [List.take_length] at hn
      exact ⟨ret_bool (by rw [hn]; rfl), rfl⟩

theorem left_ok {l : Int} {n : Nat} (h : ¬ left l n < 0) : left l n = l - (n : Int) ∧ (n : Int) ≤ l := by
  unfold left at *; split at h <;> simp_all <;> omega

theorem allW_mem {xs : List Int} {lo hi : Int} (h : allW xs lo hi = true) : ∀ x ∈ xs, lo ≤ x ∧ x ≤ hi := by
  intro x hx
  unfold allW outB at h
  simp at h
  exact withinB_true.1 (h x hx)

theorem outB_eq (lo hi x : Int) : outB lo hi x = !withinB x lo hi := by
  unfold outB withinB; grind

def sideB (xs : List Int) (s most : Int) : Bool := decide ((xs.length : Int) ≤ most) && allW xs 0 (s - 1) && (((xs.length : Int) == 0) || (xs[xs.length - 1]?.getD 0 != 0))

set_option maxRecDepth 100000 in
set_option maxHeartbeats 4000000 in
theorem impl_validSide (A0 : Option Addr) (c0 : Nat) (a0 : (List Int)) (a1 : Int) (a2 : Int) (w : World) (h0 : Sl eInt w (Old w) A0 c0 a0) (s0 : -1000 ≤ a1 ∧ a1 ≤ 1000) :
    Calls Tryd.prog 163 #[.slice A0 a0.length c0, .int .i64 a1, .int .i64 a2] w fun e w' => e = .returned (.bool (sideB a0 a1 a2)) ∧ w = w' := by
  have l0 := h0.len
  have HH1 := Held.start Nob w
  refine enter (n := 31) Tryd.func163 rfl rfl rfl fun a_2 HE3 => ?_
  refine wp_seq ?_
  refine rg ?_
  refine pl_x HE3 HH1 (wt0 rfl) (x_assign rfl) rfl rfl fun a_4 HE5 => ?_
  refine wpList_nil ?_
  clear a_2 HE3
  refine nrm ?_
  refine wp_seq ?_
  refine rg ?_
  refine pl_x HE5 HH1 (wt0 rfl) (x_move rfl) rfl rfl fun a_6 HE7 => ?_
  refine pl fun K_8 hK9 => ?_
  refine st_call HE7 (wt0 rfl) rfl rfl rfl en_166 rfl rfl (impl_size_Int64 _ _ _ _) fun e w' hr => ?_
  obtain ⟨rfl, rfl⟩ := hr
  refine ⟨_, rfl, fun a_10 HE11 => hK9 _ _ ?_⟩
  refine pl_x HE11 HH1 (wt0 rfl) (x_move rfl) rfl rfl fun a_12 HE13 => ?_
  refine pl_x HE13 HH1 (wt0 rfl) (x_leq rfl rfl) rfl rfl fun a_14 HE15 => ?_
  refine pl_x HE15 HH1 (wt0 rfl) (x_move rfl) rfl rfl fun a_16 HE17 => ?_
  by_cases hc22 : (a0.length : Int) ≤ a2
  · refine pl_x HE17 HH1 (wtT HE17 rfl rfl rfl (decide_eq_true hc22)) (x_move rfl) rfl rfl fun a_18 HE19 => ?_
    refine pl_x HE19 HH1 (wtT HE19 rfl rfl rfl (decide_eq_true hc22)) (x_move rfl) rfl rfl fun a_20 HE21 => ?_
    refine pl_x HE21 HH1 (wtT HE21 rfl rfl rfl (decide_eq_true hc22)) (x_sub rfl rfl (by exact ⟨by omega, by omega⟩)) rfl rfl fun a_22 HE23 => ?_
    refine pl fun K_24 hK25 => ?_
    refine st_call HE23 (wtT HE23 rfl rfl rfl (decide_eq_true hc22)) rfl rfl rfl en_54 rfl rfl (impl_allWithin _ _ a0 0 (a1 - 1) _ (HH1.old h0)) fun e w' hr => ?_
    obtain ⟨rfl, rfl⟩ := hr
    refine ⟨_, rfl, fun a_26 HE27 => hK25 _ _ ?_⟩
    refine pl_x HE27 HH1 (wt0 rfl) (x_pickT rfl (decide_eq_true hc22) rfl) rfl rfl fun a_28 HE29 => ?_
    refine pl_x HE29 HH1 (wt0 rfl) (x_move rfl) rfl rfl fun a_30 HE31 => ?_
    rcases Bool.eq_false_or_eq_true ((allW a0 0 (a1 - 1))) with hc24 | hc24
    · refine pl_x HE31 HH1 (wtT HE31 rfl rfl rfl hc24) (x_move rfl) rfl rfl fun a_32 HE33 => ?_
      refine pl_x HE33 HH1 (wtT HE33 rfl rfl rfl hc24) (x_len Tryd.underlying51 rfl) rfl rfl fun a_34 HE35 => ?_
      refine pl_x HE35 HH1 (wtT HE35 rfl rfl rfl hc24) (x_eql rfl rfl) rfl rfl fun a_36 HE37 => ?_
      refine pl_x HE37 HH1 (wtT HE37 rfl rfl rfl hc24) (x_move rfl) rfl rfl fun a_38 HE39 => ?_
      by_cases hc25 : (a0.length : Int) = 0
      · refine pl_no HE39 (wtF HE39 rfl rfl rfl (beq_t hc25)) rfl rfl fun a_40 HE41 => ?_
        refine pl_no HE41 (wtF HE41 rfl rfl rfl (beq_t hc25)) rfl rfl fun a_42 HE43 => ?_
        refine pl_no HE43 (wtF HE43 rfl rfl rfl (beq_t hc25)) rfl rfl fun a_44 HE45 => ?_
        refine pl_no HE45 (wtF HE45 rfl rfl rfl (beq_t hc25)) rfl rfl fun a_46 HE47 => ?_
        refine pl_no HE47 (wtF HE47 rfl rfl rfl (beq_t hc25)) rfl rfl fun a_48 HE49 => ?_
        refine pl_no HE49 (wtF HE49 rfl rfl rfl (beq_t hc25)) rfl rfl fun a_50 HE51 => ?_
        refine pl_no HE51 (wtF HE51 rfl rfl rfl (beq_t hc25)) rfl rfl fun a_52 HE53 => ?_
        refine pl_x HE53 HH1 (wtT HE53 rfl rfl rfl hc24) (x_pickT rfl (beq_t hc25) rfl) rfl rfl fun a_54 HE55 => ?_
        refine pl_x HE55 HH1 (wt0 rfl) (x_pickT rfl hc24 rfl) rfl rfl fun a_56 HE57 => ?_
        refine pl_x HE57 HH1 (wt0 rfl) (x_assign rfl) rfl rfl fun a_58 HE59 => ?_
        refine wpList_nil ?_
        clear a_4 HE5 a_6 HE7 a_10 HE11 a_12 HE13 a_14 HE15 a_16 HE17 a_18 HE19 a_20 HE21 K_8 hK9 a_22 HE23 a_26 HE27 a_28 HE29 a_30 HE31 a_32 HE33 a_34 HE35 a_36 HE37 a_38 HE39 a_40 HE41 a_42 HE43 a_44 HE45 a_46 HE47 a_48 HE49 a_50 HE51 a_52 HE53 a_54 HE55 a_56 HE57 hK25 K_24
        refine nrm ?_
        refine wp_ret ?_
        refine ret1 HE59 rfl (rv_tmp rfl) ?_
        have hF : (sideB a0 a1 a2) = true := by
          first | rfl | (simp [sideB, hc22, hc24, hc25]; done) | (simp [sideB, hc22, hc24, hc25]; omega) | grind [sideB]
        exact ⟨by first | (rw [hF] <;> rfl) | rfl | (rw [hF]; simp only [Ending.returned.injEq, Value.slice.injEq, true_and, and_true]; first | omega | (simp; done)) | (rw [hF]; simp; omega), rfl⟩
      · refine pl_x HE39 HH1 (wtT HE39 rfl rfl rfl (beq_f hc25)) (x_move rfl) rfl rfl fun a_60 HE61 => ?_
        refine pl_x HE61 HH1 (wtT HE61 rfl rfl rfl (beq_f hc25)) (x_move rfl) rfl rfl fun a_62 HE63 => ?_
        refine pl_x HE63 HH1 (wtT HE63 rfl rfl rfl (beq_f hc25)) (x_len Tryd.underlying51 rfl) rfl rfl fun a_64 HE65 => ?_
        refine pl_x HE65 HH1 (wtT HE65 rfl rfl rfl (beq_f hc25)) (x_sub rfl rfl (by exact ⟨by omega, by omega⟩)) rfl rfl fun a_66 HE67 => ?_
        have ke26 : (a0.length - 1) < a0.length := by omega
        obtain ⟨be26, fe26, ese26, Ae26, Re26, De26⟩ := el_old h0 ke26
        obtain ⟨e26, xe26⟩ : ∃ x_, x_ = a0[(a0.length - 1)] := ⟨_, rfl⟩
        rw [← xe26] at Re26
        have Qe26 := Re26
        obtain ⟨rfl, ie26⟩ := Re26
        have je26 := ie26; unfold I64 at je26
        refine pl_x HE67 HH1 (wtT HE67 rfl rfl rfl (beq_f hc25)) (x_indexAddr ts_51 rfl rfl Ae26 (by omega) ke26) rfl rfl fun a_68 HE69 => ?_
        refine pl_x HE69 HH1 (wtT HE69 rfl rfl rfl (beq_f hc25)) (x_load1 tv_2 rfl (c_old (De26 0 _ rfl))) rfl rfl fun a_70 HE71 => ?_
        refine pl_x HE71 HH1 (wtT HE71 rfl rfl rfl (beq_f hc25)) (x_neq rfl rfl) rfl rfl fun a_72 HE73 => ?_
        refine pl_x HE73 HH1 (wtT HE73 rfl rfl rfl hc24) (x_pickF rfl (beq_f hc25) rfl) rfl rfl fun a_74 HE75 => ?_
        refine pl_x HE75 HH1 (wt0 rfl) (x_pickT rfl hc24 rfl) rfl rfl fun a_76 HE77 => ?_
        refine pl_x HE77 HH1 (wt0 rfl) (x_assign rfl) rfl rfl fun a_78 HE79 => ?_
        refine wpList_nil ?_
        clear a_4 HE5 a_6 HE7 a_10 HE11 a_12 HE13 a_14 HE15 a_16 HE17 a_18 HE19 a_20 HE21 K_8 hK9 a_22 HE23 a_26 HE27 a_28 HE29 a_30 HE31 a_32 HE33 a_34 HE35 a_36 HE37 a_38 HE39 a_60 HE61 a_62 HE63 a_64 HE65 a_66 HE67 a_68 HE69 a_70 HE71 a_72 HE73 a_74 HE75 a_76 HE77 hK25 K_24
        refine nrm ?_
        refine wp_ret ?_
        refine ret1 HE79 rfl (rv_tmp rfl) ?_
        have hF : (sideB a0 a1 a2) = (e26 != 0) := by
          first | rfl | (simp [sideB, hc22, hc24, hc25, xe26]; done) | (simp [sideB, hc22, hc24, hc25, xe26]; omega) | grind [sideB]
        exact ⟨by first | (rw [hF] <;> rfl) | rfl | (rw [hF]; simp only [Ending.returned.injEq, Value.slice.injEq, true_and, and_true]; first | omega | (simp; done)) | (rw [hF]; simp; omega), rfl⟩
    · refine pl_no HE31 (wtF HE31 rfl rfl rfl hc24) rfl rfl fun a_80 HE81 => ?_
      refine pl_no HE81 (wtF HE81 rfl rfl rfl hc24) rfl rfl fun a_82 HE83 => ?_
      refine pl_no HE83 (wtF HE83 rfl rfl rfl hc24) rfl rfl fun a_84 HE85 => ?_
      refine pl_no HE85 (wtF HE85 rfl rfl rfl hc24) rfl rfl fun a_86 HE87 => ?_
      refine pl_no HE87 (wtU HE87 rfl rfl rfl) rfl rfl fun a_88 HE89 => ?_
      refine pl_no HE89 (wtU HE89 rfl rfl rfl) rfl rfl fun a_90 HE91 => ?_
      refine pl_no HE91 (wtU HE91 rfl rfl rfl) rfl rfl fun a_92 HE93 => ?_
      refine pl_no HE93 (wtU HE93 rfl rfl rfl) rfl rfl fun a_94 HE95 => ?_
      refine pl_no HE95 (wtU HE95 rfl rfl rfl) rfl rfl fun a_96 HE97 => ?_
      refine pl_no HE97 (wtU HE97 rfl rfl rfl) rfl rfl fun a_98 HE99 => ?_
      refine pl_no HE99 (wtU HE99 rfl rfl rfl) rfl rfl fun a_100 HE101 => ?_
      refine pl_no HE101 (wtF HE101 rfl rfl rfl hc24) rfl rfl fun a_102 HE103 => ?_
      refine pl_x HE103 HH1 (wt0 rfl) (x_pickF rfl hc24 rfl) rfl rfl fun a_104 HE105 => ?_
      refine pl_x HE105 HH1 (wt0 rfl) (x_assign rfl) rfl rfl fun a_106 HE107 => ?_
      refine wpList_nil ?_
      clear a_4 HE5 a_6 HE7 a_10 HE11 a_12 HE13 a_14 HE15 a_16 HE17 a_18 HE19 a_20 HE21 K_8 hK9 a_22 HE23 a_26 HE27 a_28 HE29 a_30 HE31 a_80 HE81 a_82 HE83 a_84 HE85 a_86 HE87 a_88 HE89 a_90 HE91 a_92 HE93 a_94 HE95 a_96 HE97 a_98 HE99 a_100 HE101 a_102 HE103 a_104 HE105 hK25 K_24
      refine nrm ?_
      refine wp_ret ?_
      refine ret1 HE107 rfl (rv_tmp rfl) ?_
      have hF : (sideB a0 a1 a2) = false := by
        first | rfl | (simp [sideB, hc22, hc24]; done) | (simp [sideB, hc22, hc24]; omega) | grind [sideB]
      exact ⟨by first | (rw [hF] <;> rfl) | rfl | (rw [hF]; simp only [Ending.returned.injEq, Value.slice.injEq, true_and, and_true]; first | omega | (simp; done)) | (rw [hF]; simp; omega), rfl⟩
  · refine pl_no HE17 (wtF HE17 rfl rfl rfl (decide_eq_false hc22)) rfl rfl fun a_108 HE109 => ?_
    refine pl_no HE109 (wtF HE109 rfl rfl rfl (decide_eq_false hc22)) rfl rfl fun a_110 HE111 => ?_
    refine pl_no HE111 (wtF HE111 rfl rfl rfl (decide_eq_false hc22)) rfl rfl fun a_112 HE113 => ?_
    refine pl_no HE113 (wtF HE113 rfl rfl rfl (decide_eq_false hc22)) rfl rfl fun a_114 HE115 => ?_
    refine pl_x HE115 HH1 (wt0 rfl) (x_pickF rfl (decide_eq_false hc22) rfl) rfl rfl fun a_116 HE117 => ?_
    refine pl_x HE117 HH1 (wt0 rfl) (x_move rfl) rfl rfl fun a_118 HE119 => ?_
    refine pl_no HE119 (wtF HE119 rfl rfl rfl rfl) rfl rfl fun a_120 HE121 => ?_
    refine pl_no HE121 (wtF HE121 rfl rfl rfl rfl) rfl rfl fun a_122 HE123 => ?_
    refine pl_no HE123 (wtF HE123 rfl rfl rfl rfl) rfl rfl fun a_124 HE125 => ?_
    refine pl_no HE125 (wtF HE125 rfl rfl rfl rfl) rfl rfl fun a_126 HE127 => ?_
    refine pl_no HE127 (wtU HE127 rfl rfl rfl) rfl rfl fun a_128 HE129 => ?_
    refine pl_no HE129 (wtU HE129 rfl rfl rfl) rfl rfl fun a_130 HE131 => ?_
    refine pl_no HE131 (wtU HE131 rfl rfl rfl) rfl rfl fun a_132 HE133 => ?_
    refine pl_no HE133 (wtU HE133 rfl rfl rfl) rfl rfl fun a_134 HE135 => ?_
    refine pl_no HE135 (wtU HE135 rfl rfl rfl) rfl rfl fun a_136 HE137 => ?_
    refine pl_no HE137 (wtU HE137 rfl rfl rfl) rfl rfl fun a_138 HE139 => ?_
    refine pl_no HE139 (wtU HE139 rfl rfl rfl) rfl rfl fun a_140 HE141 => ?_
    refine pl_no HE141 (wtF HE141 rfl rfl rfl rfl) rfl rfl fun a_142 HE143 => ?_
    refine pl_x HE143 HH1 (wt0 rfl) (x_pickF rfl rfl rfl) rfl rfl fun a_144 HE145 => ?_
    refine pl_x HE145 HH1 (wt0 rfl) (x_assign rfl) rfl rfl fun a_146 HE147 => ?_
    refine wpList_nil ?_
    clear a_4 HE5 a_6 HE7 a_10 HE11 a_12 HE13 a_14 HE15 a_16 HE17 a_108 HE109 a_110 HE111 a_112 HE113 a_114 HE115 a_116 HE117 a_118 HE119 a_120 HE121 a_122 HE123 a_124 HE125 a_126 HE127 a_128 HE129 a_130 HE131 a_132 HE133 a_134 HE135 a_136 HE137 a_138 HE139 a_140 HE141 a_142 HE143 a_144 HE145 hK9 K_8
    refine nrm ?_
    refine wp_ret ?_
    refine ret1 HE147 rfl (rv_tmp rfl) ?_
    have hF : (sideB a0 a1 a2) = false := by
      first | rfl | (simp [sideB, hc22]; done) | (simp [sideB, hc22]; omega) | grind [sideB]
    exact ⟨by first | (rw [hF] <;> rfl) | rfl | (rw [hF]; simp only [Ending.returned.injEq, Value.slice.injEq, true_and, and_true]; first | omega | (simp; done)) | (rw [hF]; simp; omega), rfl⟩

def eBldT : TypeId := 5

abbrev rBld (w : World) (b : Nat) (S : Nat → Prop) (l : List UInt8) : Res := rBldT 161 5 w.heap.size b S l

/-- The library's table that the decimal forms are made with. -/
def Glob (w : World) : Prop := Lib.TabIs Tryd.prog w "internal/strconv.uint64pow10" .u64 Lib.pow10Tab

theorem globNum : Tryd.prog.globalNamed "internal/strconv.uint64pow10" = some 0 := by kernel_rfl

theorem Held.glob {w0 w : World} {rs : List Res} (h : Held Nob w0 rs w) (hG : Glob w0) : Glob w := tab_below globNum hG h.below

theorem grow_below (w : World) (k : Nat) (os : Array Obj) : Below w.heap.size w (Go.Sort.grow (w.drewN k) os) :=
  ⟨rfl, rfl, rfl, by show w.heap.size ≤ (w.heap ++ os).size; rw [Array.size_append]; omega, fun b hb => Go.Sort.heap_grow_old (w.drewN k) os hb⟩

def shelf_M173_ren : Go.Shelf.Ren := ⟨fun | 173 => 108 | 246 => 149 | 283 => 168 | 284 => 169 | 285 => 170 | 286 => 171 | 129 => 180 | 317 => 179 | 318 => 181 | 319 => 182 | 320 => 183 | 337 => 186 | 338 => 187 | n => n, fun | 2 => 2 | 3 => 3 | 9 => 9 | 4 => 4 | 171 => 211 | 0 => 0 | 53 => 212 | 37 => 159 | 5 => 5 | 173 => 215 | 212 => 226 | 51 => 222 | 20 => 20 | 213 => 227 | 46 => 229 | 232 => 232 | 233 => 233 | n => n, fun | 17 => 0 | 18 => 2 | 19 => 3 | n => n⟩

theorem shelf_M173 : Go.Proofs.LaysM.n173 Tryd.prog shelf_M173_ren := {
  mixed := by kernel_rfl
  f129 := Tryd.func180.trans (congrArg some (by kernel_rfl))
  f173 := Tryd.func108.trans (congrArg some (by kernel_rfl))
  f246 := Tryd.func149.trans (congrArg some (by kernel_rfl))
  f283 := Tryd.func168.trans (congrArg some (by kernel_rfl))
  f284 := Tryd.func169.trans (congrArg some (by kernel_rfl))
  f285 := Tryd.func170.trans (congrArg some (by kernel_rfl))
  f286 := Tryd.func171.trans (congrArg some (by kernel_rfl))
  f317 := Tryd.func179.trans (congrArg some (by kernel_rfl))
  f318 := Tryd.func181.trans (congrArg some (by kernel_rfl))
  f319 := Tryd.func182.trans (congrArg some (by kernel_rfl))
  f320 := Tryd.func183.trans (congrArg some (by kernel_rfl))
  f337 := Tryd.func186.trans (congrArg some (by kernel_rfl))
  f338 := Tryd.func187.trans (congrArg some (by kernel_rfl))
  t0 := Tryd.underlying0
  a0 := Tryd.isAgg0
  z0 := Tryd.sizeOf0
  v0 := Tryd.zeroValue0
  t2 := Tryd.underlying2
  a2 := Tryd.isAgg2
  z2 := Tryd.sizeOf2
  v2 := Tryd.zeroValue2
  t3 := Tryd.underlying3
  a3 := Tryd.isAgg3
  z3 := Tryd.sizeOf3
  v3 := Tryd.zeroValue3
  t4 := Tryd.underlying4
  a4 := Tryd.isAgg4
  z4 := Tryd.sizeOf4
  v4 := Tryd.zeroValue4
  t5 := Tryd.underlying5
  a5 := Tryd.isAgg5
  z5 := Tryd.sizeOf5
  v5 := Tryd.zeroValue5
  t9 := Tryd.underlying9
  a9 := Tryd.isAgg9
  z9 := Tryd.sizeOf9
  v9 := Tryd.zeroValue9
  t20 := Tryd.underlying20
  a20 := Tryd.isAgg20
  z20 := Tryd.sizeOf20
  v20 := Tryd.zeroValue20
  t37 := Tryd.underlying159
  a37 := Tryd.isAgg159
  z37 := Tryd.sizeOf159
  v37 := Tryd.zeroValue159
  t46 := Tryd.underlying229
  a46 := Tryd.isAgg229
  z46 := Tryd.sizeOf229
  v46 := Tryd.zeroValue229
  t51 := Tryd.underlying222
  a51 := Tryd.isAgg222
  z51 := Tryd.sizeOf222
  v51 := Tryd.zeroValue222
  t53 := Tryd.underlying212
  a53 := Tryd.isAgg212
  z53 := Tryd.sizeOf212
  v53 := Tryd.zeroValue212
  t171 := Tryd.underlying211
  a171 := Tryd.isAgg211
  z171 := Tryd.sizeOf211
  v171 := Tryd.zeroValue211
  t173 := Tryd.underlying215
  a173 := Tryd.isAgg215
  z173 := Tryd.sizeOf215
  v173 := Tryd.zeroValue215
  t212 := Tryd.underlying226
  a212 := Tryd.isAgg226
  z212 := Tryd.sizeOf226
  v212 := Tryd.zeroValue226
  t213 := Tryd.underlying227
  a213 := Tryd.isAgg227
  z213 := Tryd.sizeOf227
  t232 := Tryd.underlying232
  a232 := Tryd.isAgg232
  z232 := Tryd.sizeOf232
  v232 := Tryd.zeroValue232
  t233 := Tryd.underlying233
  a233 := Tryd.isAgg233
  z233 := Tryd.sizeOf233
  v233 := Tryd.zeroValue233
  g17 := by kernel_rfl
  g18 := by kernel_rfl
  g19 := by kernel_rfl
  i0 := by kernel_rfl
  i2 := by kernel_rfl
  i3 := by kernel_rfl
  i4 := by kernel_rfl
  i5 := by kernel_rfl
  i9 := by kernel_rfl
  i20 := by kernel_rfl
  i37 := by kernel_rfl
  i46 := by kernel_rfl
  i51 := by kernel_rfl
  i53 := by kernel_rfl
  i171 := by kernel_rfl
  i173 := by kernel_rfl
  i212 := by kernel_rfl
  i232 := by kernel_rfl
  i233 := by kernel_rfl
  m17 := by kernel_rfl
  m18 := by kernel_rfl
  m19 := by kernel_rfl }

def shelf_168_ren : Go.Shelf.Ren := ⟨fun | 0 => 0 | 1 => 1 | 2 => 2 | 129 => 180 | 156 => 61 | 165 => 109 | 166 => 110 | 167 => 146 | 168 => 134 | 169 => 111 | 173 => 108 | 240 => 150 | 241 => 151 | 242 => 164 | 246 => 149 | 276 => 172 | 277 => 173 | 278 => 177 | 283 => 168 | 284 => 169 | 285 => 170 | 286 => 171 | 317 => 179 | 318 => 181 | 319 => 182 | 320 => 183 | 337 => 186 | 338 => 187 | 347 => 188 | 348 => 189 | 349 => 190 | 350 => 191 | 351 => 192 | 352 => 193 | 353 => 194 | 354 => 195 | 355 => 196 | 356 => 197 | 357 => 198 | 358 => 199 | 359 => 200 | 360 => 201 | 361 => 202 | 362 => 204 | 366 => 205 | 367 => 211 | n => n, fun | 0 => 0 | 1 => 1 | 2 => 2 | 3 => 3 | 4 => 4 | 5 => 5 | 6 => 6 | 7 => 7 | 8 => 8 | 9 => 9 | 10 => 10 | 11 => 11 | 12 => 12 | 13 => 13 | 14 => 14 | 15 => 15 | 16 => 16 | 17 => 17 | 18 => 18 | 19 => 19 | 20 => 20 | 21 => 21 | 31 => 106 | 37 => 159 | 46 => 229 | 47 => 230 | 51 => 222 | 52 => 231 | 53 => 212 | 54 => 213 | 67 => 108 | 70 => 158 | 71 => 160 | 72 => 161 | 73 => 162 | 74 => 163 | 75 => 164 | 76 => 165 | 77 => 166 | 78 => 195 | 79 => 184 | 80 => 167 | 81 => 239 | 83 => 210 | 84 => 157 | 111 => 228 | 114 => 224 | 126 => 206 | 127 => 198 | 164 => 217 | 165 => 218 | 166 => 219 | 171 => 211 | 172 => 214 | 173 => 215 | 174 => 216 | 211 => 225 | 212 => 226 | 213 => 227 | 232 => 232 | 233 => 233 | 238 => 234 | 239 => 235 | 240 => 236 | 241 => 237 | 242 => 238 | 243 => 240 | 244 => 241 | 245 => 242 | 246 => 243 | 247 => 244 | 248 => 245 | 249 => 246 | n => n, fun | 1 => 1 | 17 => 0 | 18 => 2 | 19 => 3 | n => n⟩

theorem shelf_168 : Go.Proofs.Lays.n168 Tryd.prog shelf_168_ren := {
  mixed := by kernel_rfl
  f168 := Tryd.func134.trans (congrArg some (by kernel_rfl))
  f240 := Tryd.func150.trans (congrArg some (by kernel_rfl))
  f242 := Tryd.func164.trans (congrArg some (by kernel_rfl))
  f276 := Tryd.func172.trans (congrArg some (by kernel_rfl))
  f278 := Tryd.func177.trans (congrArg some (by kernel_rfl))
  t0 := Tryd.underlying0
  a0 := Tryd.isAgg0
  z0 := Tryd.sizeOf0
  v0 := Tryd.zeroValue0
  t3 := Tryd.underlying3
  a3 := Tryd.isAgg3
  z3 := Tryd.sizeOf3
  v3 := Tryd.zeroValue3
  t4 := Tryd.underlying4
  a4 := Tryd.isAgg4
  z4 := Tryd.sizeOf4
  v4 := Tryd.zeroValue4
  t5 := Tryd.underlying5
  a5 := Tryd.isAgg5
  z5 := Tryd.sizeOf5
  v5 := Tryd.zeroValue5
  t9 := Tryd.underlying9
  a9 := Tryd.isAgg9
  z9 := Tryd.sizeOf9
  v9 := Tryd.zeroValue9
  t20 := Tryd.underlying20
  a20 := Tryd.isAgg20
  z20 := Tryd.sizeOf20
  v20 := Tryd.zeroValue20
  t21 := Tryd.underlying21
  a21 := Tryd.isAgg21
  z21 := Tryd.sizeOf21
  v21 := Tryd.zeroValue21
  t37 := Tryd.underlying159
  a37 := Tryd.isAgg159
  z37 := Tryd.sizeOf159
  v37 := Tryd.zeroValue159
  t46 := Tryd.underlying229
  a46 := Tryd.isAgg229
  z46 := Tryd.sizeOf229
  v46 := Tryd.zeroValue229
  t51 := Tryd.underlying222
  a51 := Tryd.isAgg222
  z51 := Tryd.sizeOf222
  v51 := Tryd.zeroValue222
  t70 := Tryd.underlying158
  a70 := Tryd.isAgg158
  z70 := Tryd.sizeOf158
  v70 := Tryd.zeroValue158
  t72 := Tryd.underlying161
  a72 := Tryd.isAgg161
  z72 := Tryd.sizeOf161
  v72 := Tryd.zeroValue161
  t75 := Tryd.underlying164
  a75 := Tryd.isAgg164
  z75 := Tryd.sizeOf164
  v75 := Tryd.zeroValue164
  t164 := Tryd.underlying217
  a164 := Tryd.isAgg217
  z164 := Tryd.sizeOf217
  v164 := Tryd.zeroValue217 }

theorem shelf_X_Builder_Extra_168 : Builder.Extra Tryd.prog shelf_168_ren where
  sizeBuilder := by kernel_rfl
  liesBuilder := by kernel_rfl
  t5 := Tryd.underlying5
  a5 := Tryd.isAgg5
  z5 := Tryd.sizeOf5
  v5 := Tryd.zeroValue5
  infoByte := by kernel_rfl
  cellsByte := by kernel_rfl
  sizeByte := by kernel_rfl
  neB5 := by decide

def shelf_169_ren : Go.Shelf.Ren := ⟨fun | 169 => 111 | n => n, fun | 70 => 158 | 9 => 9 | 0 => 0 | 72 => 161 | 37 => 159 | 127 => 198 | 3 => 3 | 5 => 5 | n => n, fun | n => n⟩

theorem shelf_169 : Go.Proofs.Lays.n169 Tryd.prog shelf_169_ren := {
  mixed := by kernel_rfl
  f169 := Tryd.func111.trans (congrArg some (by kernel_rfl))
  t0 := Tryd.underlying0
  a0 := Tryd.isAgg0
  z0 := Tryd.sizeOf0
  v0 := Tryd.zeroValue0
  t3 := Tryd.underlying3
  a3 := Tryd.isAgg3
  z3 := Tryd.sizeOf3
  v3 := Tryd.zeroValue3
  t9 := Tryd.underlying9
  a9 := Tryd.isAgg9
  z9 := Tryd.sizeOf9
  v9 := Tryd.zeroValue9
  t37 := Tryd.underlying159
  a37 := Tryd.isAgg159
  z37 := Tryd.sizeOf159
  v37 := Tryd.zeroValue159
  t70 := Tryd.underlying158
  a70 := Tryd.isAgg158
  z70 := Tryd.sizeOf158
  v70 := Tryd.zeroValue158
  t72 := Tryd.underlying161
  a72 := Tryd.isAgg161
  z72 := Tryd.sizeOf161
  v72 := Tryd.zeroValue161
  t127 := Tryd.underlying198
  a127 := Tryd.isAgg198
  z127 := Tryd.sizeOf198
  v127 := Tryd.zeroValue198 }

theorem shelf_X_Builder_Extra_169 : Builder.Extra Tryd.prog shelf_169_ren where
  sizeBuilder := by kernel_rfl
  liesBuilder := by kernel_rfl
  t5 := Tryd.underlying5
  a5 := Tryd.isAgg5
  z5 := Tryd.sizeOf5
  v5 := Tryd.zeroValue5
  infoByte := by kernel_rfl
  cellsByte := by kernel_rfl
  sizeByte := by kernel_rfl
  neB5 := by decide

theorem FormatInt_10 (a0 a1 : Int) (w : World) (hG : Glob w) (s0 : -9223372036854775808 ≤ a0 ∧ a0 ≤ 9223372036854775807) (s1 : a1 = 10) :
    Calls Tryd.prog 108 #[.int .i64 a0, .int .i64 a1] w fun e w' => e = .returned (.string (bs (Go.Lib.itoa a0))) ∧ Below w.heap.size w w' := by
  subst s1
  refine (show Calls Tryd.prog 108 #[.int .i64 a0, .int .i64 10] w _ from Any.strconv_FormatInt_10 shelf_M173 a0 s0.1 s0.2 w hG).mono ?_
  rintro e w' ⟨rfl, k, os, rfl⟩
  exact ⟨rfl, grow_below _ _ _⟩

theorem Builder_WriteRune {w0 w : World} {b : Nat} {S : Nat → Prop} {l : List UInt8} (a1 : Int) (h : Held Nob w0 [rBld w0 b S l] w) (hr : 0 ≤ a1 ∧ a1 < 128) (hl : l.length ≤ 1000000000) :
    Calls Tryd.prog 134 #[.pointer (some ⟨b, 0, none⟩), .int .i32 a1] w fun e w' => (∃ v, e = .returned v) ∧ ∃ S', Held Nob w0 [rBld w0 b S' (l ++ [UInt8.ofNat a1.toNat])] w' := by
  refine (show Calls Tryd.prog 134 #[.pointer (some ⟨b, 0, none⟩), .int .i32 a1] w _ from Any.Builder_WriteRune_k shelf_168 shelf_X_Builder_Extra_168 w0.heap.size b (Lib.byteCells l) a1 (by omega) (by omega) w h.isBld (by rw [byteCells_len]; omega) h.size).mono ?_
  rintro e w' ⟨rfl, h1, h2, _⟩
  refine ⟨⟨_, rfl⟩, h.bldCall h2 ?_⟩
  rw [byteCells_app, ← runeCells_ascii hr.1 hr.2]
  exact .inr h1

theorem Builder_String {w0 w : World} {b : Nat} {S : Nat → Prop} {l : List UInt8} (h : Held Nob w0 [rBld w0 b S l] w) (hl : l.length ≤ 1000000000) :
    Calls Tryd.prog 111 #[.pointer (some ⟨b, 0, none⟩)] w fun e w' => e = .returned (.string (bs l)) ∧ ∃ S', Held Nob w0 [rBld w0 b S' l] w' := by
  refine (show Calls Tryd.prog 111 #[.pointer (some ⟨b, 0, none⟩)] w _ from Any.Builder_String_any_k shelf_169 shelf_X_Builder_Extra_169 w0.heap.size b l w h.isBld h.size).mono ?_
  rintro e w' ⟨rfl, h1, h2, _⟩
  exact ⟨rfl, h.bldCall h2 h1⟩

/-- The decimal digits of a number, the last one first, as bytes; none for 0. -/
def lowD (n : Nat) : List Int := if h : n = 0 then [] else (48 + (n % 10 : Nat) : Int) :: lowD (n / 10)
termination_by n
decreasing_by omega

theorem lowD_zero : lowD 0 = [] := by rw [lowD, dif_pos rfl]

theorem lowD_pos {n : Nat} (h : 0 < n) : lowD n = (48 + (n % 10 : Nat) : Int) :: lowD (n / 10) := by rw [lowD, dif_neg (by omega)]

theorem bytesOf_app (a b : List Int) : Go.Lib.bytesOf (a ++ b) = Go.Lib.bytesOf a ++ Go.Lib.bytesOf b := by simp [Go.Lib.bytesOf]

theorem bytesOf_one (a : Nat) : Go.Lib.bytesOf [(48 + (a : Nat) : Int)] = [UInt8.ofNat (48 + a)] := by
  simp only [Go.Lib.bytesOf, List.map_cons, List.map_nil]
  rw [show (48 + (a : Int)).toNat = 48 + a from by omega]

theorem lowD_dec (n : Nat) (h : 0 < n) : Go.Lib.bytesOf (lowD n).reverse = Go.Lib.decDigits n := by
  induction n using Nat.strongRecOn with
  | _ n ih =>
    rw [lowD_pos h, List.reverse_cons, bytesOf_app, bytesOf_one, Go.Lib.decDigits]
    by_cases h1 : n < 10
    · rw [dif_pos h1, show n / 10 = 0 from by omega, lowD_zero, Nat.mod_eq_of_lt h1]; rfl
    · rw [dif_neg h1, ih (n / 10) (by omega) (by omega)]

theorem nDigits_le (k : Nat) : ∀ n : Nat, n < 10 ^ (k + 1) → Go.Lib.nDigits n ≤ k + 1 := by
  induction k with
  | zero => intro n h; rw [Go.Lib.nDigits_small (by simpa using h)]; omega
  | succ k ih =>
    intro n h
    by_cases h1 : n < 10
    · rw [Go.Lib.nDigits_small h1]; omega
    · rw [Go.Lib.nDigits_big h1]; have := ih (n / 10) (by rw [Nat.pow_succ] at h; omega); omega

theorem itoa_len {n : Int} (h : -9223372036854775808 ≤ n ∧ n ≤ 9223372036854775807) : 1 ≤ (Go.Lib.itoa n).length ∧ (Go.Lib.itoa n).length ≤ 20 := by
  unfold Go.Lib.itoa
  split
  · have h1 := nDigits_le 18 n.natAbs (by omega)
    have h2 := Go.Lib.nDigits_pos n.natAbs
    rw [List.length_cons, Go.Lib.decDigits_length]; omega
  · have h1 := nDigits_le 18 n.toNat (by omega)
    have h2 := Go.Lib.nDigits_pos n.toNat
    rw [Go.Lib.decDigits_length]; omega

theorem itoa_low {n : Int} (h : 0 < n) : Go.Lib.itoa n = Go.Lib.bytesOf (lowD n.toNat).reverse := by
  rw [lowD_dec _ (by omega)]; unfold Go.Lib.itoa; rw [if_neg (by omega)]

theorem drop_revI {α : Type} {l : List α} {k : Nat} (h0 : 0 < k) (h1 : k ≤ l.length) : (l.drop (k - 1)).reverse = (l.drop k).reverse ++ [l[k - 1]] := by
  rw [List.drop_eq_getElem_cons (by omega : k - 1 < l.length), List.reverse_cons, show k - 1 + 1 = k from by omega]

theorem Sl.i64 {w : World} {S : Nat → Prop} {A : Option Addr} {c : Nat} {xs : List Int} (h : Sl eInt w S A c xs) : ∀ x ∈ xs, -9223372036854775808 ≤ x ∧ x ≤ 9223372036854775807 := by
  intro x hx
  obtain ⟨i, hi⟩ := List.mem_iff_getElem?.1 hx
  obtain ⟨b, off, _, _, hc⟩ := h.2.2 (fun e => by rw [e] at hx; cases hx)
  obtain ⟨es, ⟨_, h1⟩, _⟩ := hc i x hi
  exact h1

def digI (x : Int) : Int := 48 + x

/-- Letters as digits. -/
def digT (l : List Int) : List UInt8 := l.map fun x => UInt8.ofNat (48 + x).toNat

theorem digT_len (l : List Int) : (digT l).length = l.length := by simp [digT]

theorem digT_of (l : List Int) : Go.Lib.bytesOf (l.map digI) = digT l := by simp [Go.Lib.bytesOf, digT, digI]

def wordT (l : List Int) : List UInt8 := if l = [] then [45] else digT l

theorem wordT_len (l : List Int) : (wordT l).length ≤ l.length + 1 := by
  unfold wordT; split
  · simp
  · rw [digT_len]; omega

theorem ne_nil {α : Type} {l : List α} (h : ¬ l.length = 0) : ¬ l = [] := fun e => h (by rw [e]; rfl)

theorem eq_nil {α : Type} {l : List α} (h : l.length = 0) : l = [] := List.eq_nil_of_length_eq_zero h

set_option maxRecDepth 100000 in
set_option maxHeartbeats 4000000 in
theorem impl_Decimal (a0 : Int) (w : World) (hG : Glob w) (s0 : -9223372036854775808 ≤ a0 ∧ a0 ≤ 9223372036854775807) :
    Calls Tryd.prog 60 #[.int .i64 a0] w fun e w' => e = .returned (.string (bs (Go.Lib.itoa a0))) ∧ Below w.heap.size w w' := by
  have HH1 := Held.start Nob w
  refine enter (n := 5) Tryd.func60 rfl rfl rfl fun a_2 HE3 => ?_
  refine wp_seq ?_
  refine rg ?_
  refine pl_x HE3 HH1 (wt0 rfl) (x_assign rfl) rfl rfl fun a_4 HE5 => ?_
  refine wpList_nil ?_
  clear a_2 HE3
  refine nrm ?_
  refine wp_seq ?_
  refine rg ?_
  refine pl_x HE5 HH1 (wt0 rfl) (x_move rfl) rfl rfl fun a_6 HE7 => ?_
  refine pl fun K_8 hK9 => ?_
  refine st_call HE7 (wt0 rfl) rfl rfl rfl en_108 rfl rfl (FormatInt_10 a0 10 _ (HH1.glob hG) (by omega) (by rfl)) fun e w' hr => ?_
  have hAr21_0 := itoa_len (n := a0) (by omega)
  obtain ⟨rfl, hbr21⟩ := hr
  have HH10 := HH1.on hbr21
  refine ⟨_, rfl, fun a_11 HE12 => hK9 _ _ ?_⟩
  refine pl_x HE12 HH10 (wt0 rfl) (x_assign rfl) rfl rfl fun a_13 HE14 => ?_
  refine wpList_nil ?_
  clear a_4 HE5 HH1 a_6 HE7 a_11 HE12 hK9 K_8
  refine nrm ?_
  refine wp_ret ?_
  refine ret1 HE14 rfl (rv_tmp rfl) ?_
  have hF : (Go.Lib.itoa a0) = (Go.Lib.itoa a0) := by
    first | rfl | (simp [Go.Lib.itoa]; done) | (simp [Go.Lib.itoa]; omega) | grind [Go.Lib.itoa]
  exact ⟨by first | (rw [hF] <;> rfl) | rfl | (rw [hF]; simp only [Ending.returned.injEq, Value.slice.injEq, true_and, and_true]; first | omega | (simp; done)) | (rw [hF]; simp; omega), HH10.below⟩

set_option maxRecDepth 100000 in
set_option maxHeartbeats 4000000 in
theorem spec_l01Dec (a0 : Int) (w : World) (s0 : 0 ≤ a0 ∧ a0 ≤ 100000000000000) :
    Calls Tryd.prog 103 #[.int .i64 a0] w fun e w' => e = .returned (.string (bs (Go.Lib.itoa a0))) ∧ Below w.heap.size w w' := by
  have HH1 := Held.start Nob w
  refine enter (n := 50) Tryd.func103 rfl rfl rfl fun a_2 HE3 => ?_
  refine wp_seq ?_
  refine rg ?_
  refine pl_x HE3 HH1 (wt0 rfl) (x_assign rfl) rfl rfl fun a_4 HE5 => ?_
  refine wpList_nil ?_
  clear a_2 HE3
  refine nrm ?_
  refine wp_seq ?_
  refine wp_seq ?_
  refine rg ?_
  refine pl_x HE5 HH1 (wt0 rfl) (x_move rfl) rfl rfl fun a_6 HE7 => ?_
  refine pl_x HE7 HH1 (wt0 rfl) (x_eql rfl rfl) rfl rfl fun a_8 HE9 => ?_
  refine wpList_nil ?_
  clear a_4 HE5 a_6 HE7
  refine nrm ?_
  refine cnd_e HE9 rfl (fun hc21 => ?_) (fun hc21 => ?_)
  · refine wp_seq ?_
    refine rg ?_
    refine pl_x HE9 HH1 (wt0 rfl) (x_assign rfl) rfl rfl fun a_10 HE11 => ?_
    refine wpList_nil ?_
    clear a_8 HE9
    refine nrm ?_
    refine wp_ret ?_
    refine (thn_ret ?_)
    refine ret1 HE11 rfl (rv_tmp rfl) ?_
    have hF : (Go.Lib.itoa a0) = [48] := by
      first | (rw [show a0 = 0 from by omega]; simp [Go.Lib.itoa, Go.Lib.decDigits]; done) | (rw [itoa_low (by omega), ‹lowD a0.toNat = _›, show u = 0 from by omega, lowD_zero, List.append_nil, show k = 0 from by omega, List.drop_zero])
    exact ⟨by first | (rw [hF] <;> rfl) | rfl | (rw [hF]; simp only [Ending.returned.injEq, Value.slice.injEq, true_and, and_true]; first | omega | (simp; done)) | (rw [hF]; simp; omega), HH1.below⟩
  · refine wp_skip ?_
    refine nrm ?_
    refine wp_seq ?_
    refine rg ?_
    refine pl fun K_12 hK13 => ?_
    refine st_lit (m := 0) (cs := []) (e := 5) HE9 HH1 (run_lit ts_159 HE9 (vs := []) rfl rfl (by simp [Value.cells]) rfl (by decide)) (wt0 rfl) rfl rfl fun q22 a_14 w' HE15 HH16 => hK13 _ _ ?_
    refine pl_x HE15 HH16 (wt0 rfl) (x_assign rfl) rfl rfl fun a_17 HE18 => ?_
    refine wpList_nil ?_
    clear a_8 HE9 HH1 a_14 HE15 hK13 K_12
    refine nrm ?_
    refine wp_seq ?_
    refine wp_seq ?_
    refine rg ?_
    refine pl_x HE18 HH16 (wt0 rfl) (x_move rfl) rfl rfl fun a_19 HE20 => ?_
    refine pl_x HE20 HH16 (wt0 rfl) (x_assign rfl) rfl rfl fun a_21 HE22 => ?_
    refine wpList_nil ?_
    clear a_17 HE18 a_19 HE20
    refine nrm ?_
    refine wp_block ?_
    have HH23 := Held.vecFlat (E := eByte) (xs := []) (css := []) HH16 rfl (Nat.zero_le _) (fun i x hx => by simp at hx)
    refine lp (fun m a w' => ∃ (u : Nat) (l : List Int) (A_3 : Option Addr) (c_3 : Nat) (S_3 : Nat → Prop), m = 0 + u ∧ Env 50 [(3, .slice A_3 (List.length l) c_3), (4, .int .i64 (u : Int)), (0, .int .i64 (a0))] a ∧ Held Nob w [rVec eByte 5 S_3 A_3 c_3 l] w' ∧ (lowD a0.toNat = l ++ lowD u) ∧ (l.length + u ≤ a0.toNat)) (0 + (a0.toNat)) ?_ ?_
    · have E23 : ([]) = ([] : List Int) := by
        first | rfl | simp
      exact ⟨a0.toNat, [], (some ⟨q22, 0, none⟩), (List.length (α := Int) []), (fun b => b = q22), rfl, HE22.sub ⟨(by rw [E23]; rfl), (lkI rfl (by omega)), rfl, trivial⟩, ((HH23.sel [0] (by decide) rfl).to (by first | rfl | (rw [E23]; done) | (rw [E23]; rfl) | (simp only [E23]; done) | (simp only [E23]; rfl))), (by rfl), (by first | omega | assumption | (simp; done) | simp_all)⟩
    · rintro m a_24 w' ⟨u, l, A_3, c_3, S_3, rfl, HE25, HH26, p24_0, p24_1⟩
      refine wp_seq ?_
      refine wp_seq ?_
      refine rg ?_
      refine pl_x HE25 HH26 (wt0 rfl) (x_move rfl) rfl rfl fun a_27 HE28 => ?_
      refine pl_x HE28 HH26 (wt0 rfl) (x_neq rfl rfl) rfl rfl fun a_29 HE30 => ?_
      refine wpList_nil ?_
      clear HH16 a_21 HE22 HH23 a_24 HE25 a_27 HE28
      refine nrm ?_
      refine cnd_ne HE30 rfl (fun hc25 => ?_) (fun hc25 => ?_)
      · refine wp_skip ?_
        refine nrm ?_
        refine wp_seq ?_
        refine wp_block ?_
        refine wp_seq ?_
        refine rg ?_
        refine pl_x HE30 HH26 (wt0 rfl) (x_move rfl) rfl rfl fun a_31 HE32 => ?_
        refine pl_x HE32 HH26 (wt0 rfl) (x_rem rfl rfl (by omega) (by omega)) rfl rfl fun a_33 HE34 => ?_
        refine pl_x HE34 HH26 (wt0 rfl) (x_assign rfl) rfl rfl fun a_35 HE36 => ?_
        refine wpList_nil ?_
        clear a_29 HE30 a_31 HE32 a_33 HE34
        refine nrm ?_
        refine wp_seq ?_
        refine wp_seq ?_
        refine rg ?_
        refine pl_x HE36 HH26 (wt0 rfl) (x_move rfl) rfl rfl fun a_37 HE38 => ?_
        refine pl_x HE38 HH26 (wt0 rfl) (x_lss rfl rfl) rfl rfl fun a_39 HE40 => ?_
        refine wpList_nil ?_
        clear a_35 HE36 a_37 HE38
        refine nrm ?_
        refine cnd_d HE40 rfl (fun hc26 => ?_) (fun hc26 => ?_)
        · exfalso; omega
        · refine wp_skip ?_
          refine nrm ?_
          refine rg ?_
          refine pl_x HE40 HH26 (wt0 rfl) (x_move rfl) rfl rfl fun a_41 HE42 => ?_
          refine pl_x HE42 HH26 (wt0 rfl) (x_move rfl) rfl rfl fun a_43 HE44 => ?_
          refine pl_x HE44 HH26 (wt0 rfl) (x_add rfl rfl (by exact ⟨by omega, by omega⟩)) rfl rfl fun a_45 HE46 => ?_
          refine pl_x HE46 HH26 (wt0 rfl) (x_conv8 Tryd.underlying2 Tryd.underlying5 rfl (by constructor <;> omega)) rfl rfl fun a_47 HE48 => ?_
          refine pl fun K_49 hK50 => ?_
          refine st_lit (m := 1) (cs := [.int .u8 ((48 + ((u : Int) % 10)))]) (e := 5) HE48 HH26 (run_lit ts_159 HE48 (vs := [.int .u8 ((48 + ((u : Int) % 10)))]) rfl rfl (by simp [Value.cells]) rfl (by decide)) (wt0 rfl) rfl rfl fun q27 a_51 w' HE52 HH53 => hK50 _ _ ?_
          refine pl fun K_54 hK55 => ?_
          refine st_app1F (48 + ((u : Int) % 10)) HE52 HH53 ts_159 [1, 0] (by decide) rfl (fun _ => (oY (by constructor <;> omega))) rfl rfl (by simp [Value.oneCell']) (by unfold maxLen; first | omega | (simp; done) | (simp; omega)) (by first | omega | (simp; done) | (simp; omega)) (wt0 rfl) rfl fun A28 c29 S30 a_56 w' HE57 HH58 => hK55 _ _ ?_
          refine pl_x HE57 HH58 (wt0 rfl) (x_assign rfl) rfl rfl fun a_59 HE60 => ?_
          refine wpList_nil ?_
          clear a_39 HE40 a_41 HE42 a_43 HE44 a_45 HE46 a_47 HE48 HH26 K_49 hK50 a_51 HE52 HH53 a_56 HE57 hK55 K_54
          refine blk_n ?_
          refine nrm ?_
          refine rg ?_
          refine pl_x HE60 HH58 (wt0 rfl) (x_move rfl) rfl rfl fun a_61 HE62 => ?_
          refine pl_x HE62 HH58 (wt0 rfl) (x_quo rfl rfl (by omega) (by omega) (by omega)) rfl rfl fun a_63 HE64 => ?_
          refine pl_x HE64 HH58 (wt0 rfl) (x_assign rfl) rfl rfl fun a_65 HE66 => ?_
          refine wpList_nil ?_
          clear a_59 HE60 a_61 HE62 a_63 HE64
          have E31 : ((l ++ [(48 + ((u : Int) % 10))])) = (l ++ [(48 + ((u : Int) % 10))]) := by
            first | rfl | simp
          exact nrm ⟨0 + (u / 10), (by omega), u / 10, (l ++ [(48 + ((u : Int) % 10))]), A28, c29, S30, rfl, HE66.sub ⟨(by rw [E31]; rfl), (lkI rfl (by omega)), rfl, trivial⟩, ((HH58.sel [0] (by decide) rfl).to (by first | rfl | (rw [E31]; done) | (rw [E31]; rfl) | (simp only [E31]; done) | (simp only [E31]; rfl))), (by rw [p24_0, lowD_pos (by omega)]; simp), (by simp; omega)⟩
      · refine wp_exit ?_
        refine (thn_exit (thn_exit (blk_hit ?_)))
        refine nrm ?_
        refine wp_seq ?_
        refine wp_seq ?_
        refine rg ?_
        refine pl_x HE30 HH26 (wt0 rfl) (x_move rfl) rfl rfl fun a_67 HE68 => ?_
        refine pl_x HE68 HH26 (wt0 rfl) (x_lss rfl rfl) rfl rfl fun a_69 HE70 => ?_
        refine wpList_nil ?_
        clear a_29 HE30 a_67 HE68
        refine nrm ?_
        refine cnd_d HE70 rfl (fun hc32 => ?_) (fun hc32 => ?_)
        · exfalso; omega
        · refine wp_skip ?_
          refine nrm ?_
          refine wp_seq ?_
          refine rg ?_
          refine pl fun K_71 hK72 => ?_
          refine st_lit (m := 0) (cs := []) (e := 5) HE70 HH26 (run_lit ts_159 HE70 (vs := []) rfl rfl (by simp [Value.cells]) rfl (by decide)) (wt0 rfl) rfl rfl fun q33 a_73 w' HE74 HH75 => hK72 _ _ ?_
          refine pl_x HE74 HH75 (wt0 rfl) (x_assign rfl) rfl rfl fun a_76 HE77 => ?_
          refine wpList_nil ?_
          clear a_69 HE70 HH26 a_73 HE74 hK72 K_71
          refine nrm ?_
          refine wp_seq ?_
          refine wp_seq ?_
          refine rg ?_
          refine pl_x HE77 HH75 (wt0 rfl) (x_move rfl) rfl rfl fun a_78 HE79 => ?_
          refine pl_x HE79 HH75 (wt0 rfl) (x_len Tryd.underlying159 rfl) rfl rfl fun a_80 HE81 => ?_
          refine pl_x HE81 HH75 (wt0 rfl) (x_sub rfl rfl (by exact ⟨by omega, by omega⟩)) rfl rfl fun a_82 HE83 => ?_
          refine pl_x HE83 HH75 (wt0 rfl) (x_assign rfl) rfl rfl fun a_84 HE85 => ?_
          refine wpList_nil ?_
          clear a_76 HE77 a_78 HE79 a_80 HE81 a_82 HE83
          refine nrm ?_
          refine wp_block ?_
          have HH86 := Held.vecFlat (E := eByte) (xs := []) (css := []) HH75 rfl (Nat.zero_le _) (fun i x hx => by simp at hx)
          have HH87 := HH86.sel [1, 0] (by decide) rfl
          have HH88 := HH87.vecSo
          refine lp (fun m a w' => ∃ (k : Nat) (A_6 : Option Addr) (c_6 : Nat) (S_6 : Nat → Prop), m = 0 + k ∧ Env 50 [(6, .slice A_6 (List.length ((l.drop k).reverse)) c_6), (7, .int .i64 ((k : Int) - 1)), (3, .slice A_3 ((List.length l)) c_3)] a ∧ Held Nob w [rVec eByte 5 S_6 A_6 c_6 ((l.drop k).reverse), rSo eByte S_3 A_3 c_3 l] w' ∧ (k ≤ l.length)) (0 + (l.length)) ?_ ?_
          · have E34 : (l.drop (l.length)).reverse = ([] : List Int) := by
              simp
            exact ⟨l.length, (some ⟨q33, 0, none⟩), (List.length (α := Int) []), (fun b => b = q33), rfl, HE85.sub ⟨(by rw [E34]; rfl), (lkI rfl (by first | rfl | omega | (simp [hc21, p24_0, p24_1, hc25, hc32]; done))), rfl, trivial⟩, ((HH88.sel [1, 0] (by decide) rfl).to (by first | rfl | (rw [E34]; done) | (rw [E34]; rfl) | (simp only [E34]; done) | (simp only [E34]; rfl))), (by first | omega | assumption | (simp; done) | simp_all)⟩
          · rintro m a_89 w' ⟨k, A_6, c_6, S_6, rfl, HE90, HH91, p35_0⟩
            have ol : (l.drop k).reverse.length ≤ l.length := by simp
            refine wp_seq ?_
            refine wp_seq ?_
            refine rg ?_
            refine pl_x HE90 HH91 (wt0 rfl) (x_move rfl) rfl rfl fun a_92 HE93 => ?_
            refine pl_x HE93 HH91 (wt0 rfl) (x_geq rfl rfl) rfl rfl fun a_94 HE95 => ?_
            refine wpList_nil ?_
            clear HH75 HH86 HH87 a_84 HE85 HH88 a_89 HE90 a_92 HE93
            refine nrm ?_
            refine cnd_d HE95 rfl (fun hc36 => ?_) (fun hc36 => ?_)
            · refine wp_skip ?_
              refine nrm ?_
              refine wp_seq ?_
              refine wp_block ?_
              refine rg ?_
              refine pl_x HE95 HH91 (wt0 rfl) (x_move rfl) rfl rfl fun a_96 HE97 => ?_
              refine pl_x HE97 HH91 (wt0 rfl) (x_move rfl) rfl rfl fun a_98 HE99 => ?_
              refine pl_x HE99 HH91 (wt0 rfl) (x_move rfl) rfl rfl fun a_100 HE101 => ?_
              have ke37 : (k - 1) < (List.length l) := by omega
              obtain ⟨be37, fe37, rfl⟩ := el_own HH91 (i := 1) rfl ke37
              refine pl_x HE101 HH91 (wt0 rfl) (x_indexAddr ts_159 rfl rfl rfl (by omega) ke37) rfl rfl fun a_102 HE103 => ?_
              obtain ⟨y38, xy38⟩ : ∃ y_, y_ = l[(k - 1)]'(by first | exact ke37 | (simp only [List.length_set]; exact ke37) | omega | (simp only [List.length_set]; omega) | (simp; omega)) := ⟨_, rfl⟩
              have jy38 : 0 ≤ y38 ∧ y38 ≤ 255 := by rw [xy38]; exact i_ownY HH91 1 rfl _
              refine pl_x HE103 HH91 (wt0 rfl) (x_load1 tv_5 rfl (c_ownY 1 rfl (by first | exact ke37 | (simp only [List.length_set]; exact ke37) | omega | (simp only [List.length_set]; omega) | (simp; omega)) xy38.symm)) rfl rfl fun a_104 HE105 => ?_
              refine pl fun K_106 hK107 => ?_
              refine st_lit (m := 1) (cs := [.int .u8 (y38)]) (e := 5) HE105 HH91 (run_lit ts_159 HE105 (vs := [.int .u8 (y38)]) rfl rfl (by simp [Value.cells]) rfl (by decide)) (wt0 rfl) rfl rfl fun q39 a_108 w' HE109 HH110 => hK107 _ _ ?_
              refine pl fun K_111 hK112 => ?_
              refine st_app1F y38 HE109 HH110 ts_159 [1, 0, 2] (by decide) rfl (fun _ => (oY (by constructor <;> omega))) rfl rfl (by simp [Value.oneCell']) (by unfold maxLen; first | omega | (simp; done) | (simp; omega)) (by first | omega | (simp; done) | (simp; omega)) (wt0 rfl) rfl fun A40 c41 S42 a_113 w' HE114 HH115 => hK112 _ _ ?_
              refine pl_x HE114 HH115 (wt0 rfl) (x_assign rfl) rfl rfl fun a_116 HE117 => ?_
              refine wpList_nil ?_
              clear a_94 HE95 a_96 HE97 a_98 HE99 a_100 HE101 a_102 HE103 a_104 HE105 HH91 K_106 hK107 a_108 HE109 HH110 a_113 HE114 hK112 K_111
              refine blk_n ?_
              refine nrm ?_
              refine rg ?_
              refine pl_x HE117 HH115 (wt0 rfl) (x_move rfl) rfl rfl fun a_118 HE119 => ?_
              refine pl_x HE119 HH115 (wt0 rfl) (x_sub rfl rfl (by exact ⟨by omega, by omega⟩)) rfl rfl fun a_120 HE121 => ?_
              refine pl_x HE121 HH115 (wt0 rfl) (x_assign rfl) rfl rfl fun a_122 HE123 => ?_
              refine wpList_nil ?_
              clear a_116 HE117 a_118 HE119 a_120 HE121
              have E43 : (l.drop ((k - 1))).reverse = ((l.drop k).reverse ++ [y38]) := by
                rw [drop_revI (by omega) (by omega), ← xy38]
              exact nrm ⟨0 + ((k - 1)), (by omega), (k - 1), A40, c41, S42, rfl, HE123.sub ⟨(by rw [E43]; rfl), (lkI rfl (by omega)), rfl, trivial⟩, ((HH115.sel [0, 1] (by decide) rfl).to (by first | rfl | (rw [E43]; done) | (rw [E43]; rfl) | (simp only [E43]; done) | (simp only [E43]; rfl))), (by first | omega | assumption | (simp; done) | simp_all)⟩
            · refine wp_exit ?_
              refine (thn_exit (thn_exit (blk_hit ?_)))
              refine nrm ?_
              refine wp_seq ?_
              refine rg ?_
              refine pl_x HE95 HH91 (wt0 rfl) (x_move rfl) rfl rfl fun a_124 HE125 => ?_
              refine pl_x HE125 HH91 (wt0 rfl) (x_bytes (xs := (l.drop k).reverse) Tryd.underlying159 Tryd.underlying5 Tryd.underlying9 rfl (fun _ h_ => (h_.vecSl (i := 0) rfl))) rfl rfl fun a_126 HE127 => ?_
              refine pl_x HE127 HH91 (wt0 rfl) (x_assign rfl) rfl rfl fun a_128 HE129 => ?_
              refine wpList_nil ?_
              clear a_94 HE95 a_124 HE125 a_126 HE127
              refine nrm ?_
              refine wp_ret ?_
              refine ret1 HE129 rfl (rv_tmp rfl) ?_
              have hF : (Go.Lib.itoa a0) = (Go.Lib.bytesOf ((l.drop k).reverse)) := by
                first | (rw [show a0 = 0 from by omega]; simp [Go.Lib.itoa, Go.Lib.decDigits]; done) | (rw [itoa_low (by omega), ‹lowD a0.toNat = _›, show u = 0 from by omega, lowD_zero, List.append_nil, show k = 0 from by omega, List.drop_zero])
              exact ⟨by first | (rw [hF] <;> rfl) | rfl | (rw [hF]; simp only [Ending.returned.injEq, Value.slice.injEq, true_and, and_true]; first | omega | (simp; done)) | (rw [hF]; simp; omega), HH91.below⟩

end Go.Proofs.YtjnnkmflpbildaaDoor
