/- What the proof of FnExactSequenceMulti needs: contracts of the functions that it reaches, each once. -/
import Derived.Test.YthfihlfjphiihaaProg
import Derived.Test.YthfihlfjphiihaaQMem
import Derived.Test.YthfihlfjphiihaaQOpen
import Derived.Test.YthfihlfjphiihaaLSequenceMultia
import Derived.WalkKit
import Derived.WalkSpells
import Derived.Below
import Derived.LoopTactic
import Derived.Outline
import Derived.Deep.QuietTactic
import Derived.BigQuiet
import Derived.Deep.LoopGhost
import Derived.Handy
import Derived.Lib.Hide
import Derived.Shelf.Abstract
import Derived.StillTailTactics
import Derived.OwnWalk
import Derived.Maps.AppendAt
import Derived.RegionTactic
import Derived.Deep.RegionHeld3
import Derived.IntWalk
import Derived.Deep.Upon
import Derived.Laws.OwnMore
import Derived.Maps.AppendAt
import Derived.Laws.Small
import Derived.Lib.FrozenHead
import Derived.Lib.RuneBytes
import Derived.Lib.LaidTab
import Derived.Laws.StructEq
import Derived.Maps.OwnSet
import Derived.DeepKeys4
import Derived.Lib.SliceRun
import Derived.Lib.AppendZeros
import Derived.Shelf.SortG.Plain
import Derived.Shelf.SortG.SortNone
import Derived.Shelf.SlicesG.CompactI
import Derived.Shelf.SlicesG.SearchI
import Derived.Sort.OwnSortedInts
import Derived.Lib.RowBridge
import Derived.Lib.ItoaLen
import Derived.Lib.Join
import Derived.Shelf.Strconv.Itoa4
import Derived.Shelf.Strings.OnBuilder
import Derived.Shelf.Strings.BuilderK
import Derived.Shelf.Strings.BuilderRune
import Derived.Shelf.LaysM
import Derived.Ground.NamesProg
import Derived.Shelf.SlSortCmp.WholeK
import Derived.Shelf.SlSortCmp.NoneTotal
namespace Go.Proofs.Ythfihlfjphiihaa
open Go.RowKit

set_option maxRecDepth 100000 in
set_option maxHeartbeats 2000000 in
theorem to_MultiRule (es : List Value) (x : tMultiRule) (w : World) (h : eMultiRule.R w (Old w) es x) (hcost : cost_MultiRule x ≤ 1048576) :
    Calls Try.prog 100 #[.agg es.toArray] w fun e w' => ∃ es', e = .returned (.agg es'.toArray) ∧ eMultiRule.O w' (Fr w w') es' x ∧ Below w.heap.size w w' := by
  obtain ⟨A1, c1, A2, c2, A3, c3, rfl, g0, g1, g2, g3, g4⟩ := shape_MultiRule h
  have HC : Hid (cost_MultiRule x ≤ 1048576) := hcost
  unfold cost_MultiRule at hcost
  have HB0 : Hid (Below w.heap.size w (((w.alloc (.cells #[.int .i64 x.1, .slice A1 x.2.1.length c1, .slice A2 x.2.2.1.length c2, .slice A3 x.2.2.2.1.length c3, .int .i64 x.2.2.2.2] 126)).alloc (.cells #[.int .i64 0, .slice none 0 0, .slice none 0 0, .slice none 0 0, .int .i64 0] 104)).alloc (.cells #[.int .i64 x.1, .slice none 0 0, .slice none 0 0, .slice none 0 0, .int .i64 0] 104))) := by show Below _ _ _; go_grown
  have hc1 : cost_L x.2.1 ≤ 1048576 := by omega
  have HC1 := Lib.hid hc1; clear hc1
  have K1 := Lib.hid g1; clear g1
  have hc2 : cost_L x.2.2.1 ≤ 1048576 := by omega
  have HC2 := Lib.hid hc2; clear hc2
  have K2 := Lib.hid g2; clear g2
  have hc3 : cost_L x.2.2.2.1 ≤ 1048576 := by omega
  have HC3 := Lib.hid hc3; clear hc3
  have K3 := Lib.hid g3; clear g3
  have G0 := Lib.hid g0; clear g0
  have G4 := Lib.hid g4; clear g4
  clear hcost h
  go_enter Try.func100, Try.ntmps100
  go_wp2_with fail
  refine (to_Int64S _ _ x.2.1 _ (by exact K1.out.on HB0.out) HC1.out).mono ?_
  rintro e w1 ⟨A1', c1', rfl, hs, hb⟩
  have HS1 := Lib.hid hs; clear hs
  have BL1 := Lib.hid (HB0.out.trans (hb.mono HB0.out.size))
  have HBW1 := Lib.hid hb; clear hb
  have HX := Lib.hid ((((Blk.new w 126 #[.int .i64 x.1, .slice A1 x.2.1.length c1, .slice A2 x.2.2.1.length c2, .slice A3 x.2.2.2.1.length c3, .int .i64 x.2.2.2.2]).alloc _).alloc _).on HBW1.out)
  have HR := Lib.hid (((Blk.new1 w _ 104 #[.int .i64 0, .slice none 0 0, .slice none 0 0, .slice none 0 0, .int .i64 0]).alloc _).on HBW1.out)
  have HO : Hid (Blk w1 (w.heap.size + 1 + 1) 104 #[.int .i64 x.1, .slice none 0 0, .slice none 0 0, .slice none 0 0, .int .i64 0]) := (Blk.new2 w _ _ 104 #[.int .i64 x.1, .slice none 0 0, .slice none 0 0, .slice none 0 0, .int .i64 0]).on HBW1.out
  have x0 : w1.cell? ⟨w.heap.size, 0, none⟩ = some (.int .i64 x.1) := HX.out.cell 0
  have o0 : w1.cell? ⟨w.heap.size + 1 + 1, 0, none⟩ = some (.int .i64 x.1) := HO.out.cell 0
  have r0 : w1.cell? ⟨w.heap.size + 1, 0, none⟩ = some (.int .i64 0) := HR.out.cell 0
  have p0 : w1.frozen? ⟨w.heap.size + 1 + 1, 0, none⟩ = false := HO.out.frozen 0
  have q0 : w1.frozen? ⟨w.heap.size + 1, 0, none⟩ = false := HR.out.frozen 0
  have x1 : w1.cell? ⟨w.heap.size, 1, none⟩ = some (.slice A1 x.2.1.length c1) := HX.out.cell 1
  have o1 : w1.cell? ⟨w.heap.size + 1 + 1, 1, none⟩ = some (.slice none 0 0) := HO.out.cell 1
  have r1 : w1.cell? ⟨w.heap.size + 1, 1, none⟩ = some (.slice none 0 0) := HR.out.cell 1
  have p1 : w1.frozen? ⟨w.heap.size + 1 + 1, 1, none⟩ = false := HO.out.frozen 1
  have q1 : w1.frozen? ⟨w.heap.size + 1, 1, none⟩ = false := HR.out.frozen 1
  have x2 : w1.cell? ⟨w.heap.size, 2, none⟩ = some (.slice A2 x.2.2.1.length c2) := HX.out.cell 2
  have o2 : w1.cell? ⟨w.heap.size + 1 + 1, 2, none⟩ = some (.slice none 0 0) := HO.out.cell 2
  have r2 : w1.cell? ⟨w.heap.size + 1, 2, none⟩ = some (.slice none 0 0) := HR.out.cell 2
  have p2 : w1.frozen? ⟨w.heap.size + 1 + 1, 2, none⟩ = false := HO.out.frozen 2
  have q2 : w1.frozen? ⟨w.heap.size + 1, 2, none⟩ = false := HR.out.frozen 2
  have x3 : w1.cell? ⟨w.heap.size, 3, none⟩ = some (.slice A3 x.2.2.2.1.length c3) := HX.out.cell 3
  have o3 : w1.cell? ⟨w.heap.size + 1 + 1, 3, none⟩ = some (.slice none 0 0) := HO.out.cell 3
  have r3 : w1.cell? ⟨w.heap.size + 1, 3, none⟩ = some (.slice none 0 0) := HR.out.cell 3
  have p3 : w1.frozen? ⟨w.heap.size + 1 + 1, 3, none⟩ = false := HO.out.frozen 3
  have q3 : w1.frozen? ⟨w.heap.size + 1, 3, none⟩ = false := HR.out.frozen 3
  have x4 : w1.cell? ⟨w.heap.size, 4, none⟩ = some (.int .i64 x.2.2.2.2) := HX.out.cell 4
  have o4 : w1.cell? ⟨w.heap.size + 1 + 1, 4, none⟩ = some (.int .i64 0) := HO.out.cell 4
  have r4 : w1.cell? ⟨w.heap.size + 1, 4, none⟩ = some (.int .i64 0) := HR.out.cell 4
  have p4 : w1.frozen? ⟨w.heap.size + 1 + 1, 4, none⟩ = false := HO.out.frozen 4
  have q4 : w1.frozen? ⟨w.heap.size + 1, 4, none⟩ = false := HR.out.frozen 4
  go_wp2_with fail
  refine (to_Int64S _ _ x.2.2.1 _ (by exact K2.out.on (BL1.out.setCell (p := ⟨w.heap.size + 1 + 1, 1, none⟩) (by show w.heap.size ≤ w.heap.size + 1 + 1; omega) _)) HC2.out).mono ?_
  rintro e w2 ⟨A2', c2', rfl, hs, hb⟩
  have HS2 := Lib.hid hs; clear hs
  have BL2 := Lib.hid ((BL1.out.setCell (p := ⟨w.heap.size + 1 + 1, 1, none⟩) (by show w.heap.size ≤ w.heap.size + 1 + 1; omega) _).trans (hb.mono (BL1.out.setCell (p := ⟨w.heap.size + 1 + 1, 1, none⟩) (by show w.heap.size ≤ w.heap.size + 1 + 1; omega) _).size))
  have HBW2 := Lib.hid hb; clear hb
  have HX' := Lib.hid ((HX.out.far (p := ⟨w.heap.size + 1 + 1, 1, none⟩) (by show w.heap.size ≠ w.heap.size + 1 + 1; omega) _).on HBW2.out); clear HX; have HX := HX'; clear HX'
  have HR' := Lib.hid ((HR.out.far (p := ⟨w.heap.size + 1 + 1, 1, none⟩) (by show w.heap.size + 1 ≠ w.heap.size + 1 + 1; omega) _).on HBW2.out); clear HR; have HR := HR'; clear HR'
  have HO' : Hid (Blk w2 (w.heap.size + 1 + 1) 104 #[.int .i64 x.1, .slice A1' x.2.1.length c1', .slice none 0 0, .slice none 0 0, .int .i64 0]) := (HO.out.set _ _).on HBW2.out; clear HO; have HO := HO'; clear HO'
  clear x0 o0 r0 p0 q0 x1 o1 r1 p1 q1 x2 o2 r2 p2 q2 x3 o3 r3 p3 q3 x4 o4 r4 p4 q4
  have x0 : w2.cell? ⟨w.heap.size, 0, none⟩ = some (.int .i64 x.1) := HX.out.cell 0
  have o0 : w2.cell? ⟨w.heap.size + 1 + 1, 0, none⟩ = some (.int .i64 x.1) := HO.out.cell 0
  have r0 : w2.cell? ⟨w.heap.size + 1, 0, none⟩ = some (.int .i64 0) := HR.out.cell 0
  have p0 : w2.frozen? ⟨w.heap.size + 1 + 1, 0, none⟩ = false := HO.out.frozen 0
  have q0 : w2.frozen? ⟨w.heap.size + 1, 0, none⟩ = false := HR.out.frozen 0
  have x1 : w2.cell? ⟨w.heap.size, 1, none⟩ = some (.slice A1 x.2.1.length c1) := HX.out.cell 1
  have o1 : w2.cell? ⟨w.heap.size + 1 + 1, 1, none⟩ = some (.slice A1' x.2.1.length c1') := HO.out.cell 1
  have r1 : w2.cell? ⟨w.heap.size + 1, 1, none⟩ = some (.slice none 0 0) := HR.out.cell 1
  have p1 : w2.frozen? ⟨w.heap.size + 1 + 1, 1, none⟩ = false := HO.out.frozen 1
  have q1 : w2.frozen? ⟨w.heap.size + 1, 1, none⟩ = false := HR.out.frozen 1
  have x2 : w2.cell? ⟨w.heap.size, 2, none⟩ = some (.slice A2 x.2.2.1.length c2) := HX.out.cell 2
  have o2 : w2.cell? ⟨w.heap.size + 1 + 1, 2, none⟩ = some (.slice none 0 0) := HO.out.cell 2
  have r2 : w2.cell? ⟨w.heap.size + 1, 2, none⟩ = some (.slice none 0 0) := HR.out.cell 2
  have p2 : w2.frozen? ⟨w.heap.size + 1 + 1, 2, none⟩ = false := HO.out.frozen 2
  have q2 : w2.frozen? ⟨w.heap.size + 1, 2, none⟩ = false := HR.out.frozen 2
  have x3 : w2.cell? ⟨w.heap.size, 3, none⟩ = some (.slice A3 x.2.2.2.1.length c3) := HX.out.cell 3
  have o3 : w2.cell? ⟨w.heap.size + 1 + 1, 3, none⟩ = some (.slice none 0 0) := HO.out.cell 3
  have r3 : w2.cell? ⟨w.heap.size + 1, 3, none⟩ = some (.slice none 0 0) := HR.out.cell 3
  have p3 : w2.frozen? ⟨w.heap.size + 1 + 1, 3, none⟩ = false := HO.out.frozen 3
  have q3 : w2.frozen? ⟨w.heap.size + 1, 3, none⟩ = false := HR.out.frozen 3
  have x4 : w2.cell? ⟨w.heap.size, 4, none⟩ = some (.int .i64 x.2.2.2.2) := HX.out.cell 4
  have o4 : w2.cell? ⟨w.heap.size + 1 + 1, 4, none⟩ = some (.int .i64 0) := HO.out.cell 4
  have r4 : w2.cell? ⟨w.heap.size + 1, 4, none⟩ = some (.int .i64 0) := HR.out.cell 4
  have p4 : w2.frozen? ⟨w.heap.size + 1 + 1, 4, none⟩ = false := HO.out.frozen 4
  have q4 : w2.frozen? ⟨w.heap.size + 1, 4, none⟩ = false := HR.out.frozen 4
  go_wp2_with fail
  refine (to_Int64S _ _ x.2.2.2.1 _ (by exact K3.out.on (BL2.out.setCell (p := ⟨w.heap.size + 1 + 1, 2, none⟩) (by show w.heap.size ≤ w.heap.size + 1 + 1; omega) _)) HC3.out).mono ?_
  rintro e w3 ⟨A3', c3', rfl, hs, hb⟩
  have HS3 := Lib.hid hs; clear hs
  have BL3 := Lib.hid ((BL2.out.setCell (p := ⟨w.heap.size + 1 + 1, 2, none⟩) (by show w.heap.size ≤ w.heap.size + 1 + 1; omega) _).trans (hb.mono (BL2.out.setCell (p := ⟨w.heap.size + 1 + 1, 2, none⟩) (by show w.heap.size ≤ w.heap.size + 1 + 1; omega) _).size))
  have HBW3 := Lib.hid hb; clear hb
  have HX' := Lib.hid ((HX.out.far (p := ⟨w.heap.size + 1 + 1, 2, none⟩) (by show w.heap.size ≠ w.heap.size + 1 + 1; omega) _).on HBW3.out); clear HX; have HX := HX'; clear HX'
  have HR' := Lib.hid ((HR.out.far (p := ⟨w.heap.size + 1 + 1, 2, none⟩) (by show w.heap.size + 1 ≠ w.heap.size + 1 + 1; omega) _).on HBW3.out); clear HR; have HR := HR'; clear HR'
  have HO' : Hid (Blk w3 (w.heap.size + 1 + 1) 104 #[.int .i64 x.1, .slice A1' x.2.1.length c1', .slice A2' x.2.2.1.length c2', .slice none 0 0, .int .i64 0]) := (HO.out.set _ _).on HBW3.out; clear HO; have HO := HO'; clear HO'
  clear x0 o0 r0 p0 q0 x1 o1 r1 p1 q1 x2 o2 r2 p2 q2 x3 o3 r3 p3 q3 x4 o4 r4 p4 q4
  have x0 : w3.cell? ⟨w.heap.size, 0, none⟩ = some (.int .i64 x.1) := HX.out.cell 0
  have o0 : w3.cell? ⟨w.heap.size + 1 + 1, 0, none⟩ = some (.int .i64 x.1) := HO.out.cell 0
  have r0 : w3.cell? ⟨w.heap.size + 1, 0, none⟩ = some (.int .i64 0) := HR.out.cell 0
  have p0 : w3.frozen? ⟨w.heap.size + 1 + 1, 0, none⟩ = false := HO.out.frozen 0
  have q0 : w3.frozen? ⟨w.heap.size + 1, 0, none⟩ = false := HR.out.frozen 0
  have x1 : w3.cell? ⟨w.heap.size, 1, none⟩ = some (.slice A1 x.2.1.length c1) := HX.out.cell 1
  have o1 : w3.cell? ⟨w.heap.size + 1 + 1, 1, none⟩ = some (.slice A1' x.2.1.length c1') := HO.out.cell 1
  have r1 : w3.cell? ⟨w.heap.size + 1, 1, none⟩ = some (.slice none 0 0) := HR.out.cell 1
  have p1 : w3.frozen? ⟨w.heap.size + 1 + 1, 1, none⟩ = false := HO.out.frozen 1
  have q1 : w3.frozen? ⟨w.heap.size + 1, 1, none⟩ = false := HR.out.frozen 1
  have x2 : w3.cell? ⟨w.heap.size, 2, none⟩ = some (.slice A2 x.2.2.1.length c2) := HX.out.cell 2
  have o2 : w3.cell? ⟨w.heap.size + 1 + 1, 2, none⟩ = some (.slice A2' x.2.2.1.length c2') := HO.out.cell 2
  have r2 : w3.cell? ⟨w.heap.size + 1, 2, none⟩ = some (.slice none 0 0) := HR.out.cell 2
  have p2 : w3.frozen? ⟨w.heap.size + 1 + 1, 2, none⟩ = false := HO.out.frozen 2
  have q2 : w3.frozen? ⟨w.heap.size + 1, 2, none⟩ = false := HR.out.frozen 2
  have x3 : w3.cell? ⟨w.heap.size, 3, none⟩ = some (.slice A3 x.2.2.2.1.length c3) := HX.out.cell 3
  have o3 : w3.cell? ⟨w.heap.size + 1 + 1, 3, none⟩ = some (.slice none 0 0) := HO.out.cell 3
  have r3 : w3.cell? ⟨w.heap.size + 1, 3, none⟩ = some (.slice none 0 0) := HR.out.cell 3
  have p3 : w3.frozen? ⟨w.heap.size + 1 + 1, 3, none⟩ = false := HO.out.frozen 3
  have q3 : w3.frozen? ⟨w.heap.size + 1, 3, none⟩ = false := HR.out.frozen 3
  have x4 : w3.cell? ⟨w.heap.size, 4, none⟩ = some (.int .i64 x.2.2.2.2) := HX.out.cell 4
  have o4 : w3.cell? ⟨w.heap.size + 1 + 1, 4, none⟩ = some (.int .i64 0) := HO.out.cell 4
  have r4 : w3.cell? ⟨w.heap.size + 1, 4, none⟩ = some (.int .i64 0) := HR.out.cell 4
  have p4 : w3.frozen? ⟨w.heap.size + 1 + 1, 4, none⟩ = false := HO.out.frozen 4
  have q4 : w3.frozen? ⟨w.heap.size + 1, 4, none⟩ = false := HR.out.frozen 4
  go_wp2
  have hE : Blk (((((((w3.setCell ⟨w.heap.size + 1 + 1, 3, none⟩ (.slice A3' x.2.2.2.1.length c3')).setCell ⟨w.heap.size + 1 + 1, 4, none⟩ (.int .i64 x.2.2.2.2)).setCell ⟨w.heap.size + 1, 0, none⟩ (.int .i64 x.1)).setCell ⟨w.heap.size + 1, 1, none⟩ (.slice A1' x.2.1.length c1')).setCell ⟨w.heap.size + 1, 2, none⟩ (.slice A2' x.2.2.1.length c2')).setCell ⟨w.heap.size + 1, 3, none⟩ (.slice A3' x.2.2.2.1.length c3')).setCell ⟨w.heap.size + 1, 4, none⟩ (.int .i64 x.2.2.2.2)) (w.heap.size + 1) 104 #[.int .i64 x.1, .slice A1' x.2.1.length c1', .slice A2' x.2.2.1.length c2', .slice A3' x.2.2.2.1.length c3', .int .i64 x.2.2.2.2] := (((((((HR.out.far (p := ⟨w.heap.size + 1 + 1, 3, none⟩) (by show w.heap.size + 1 ≠ w.heap.size + 1 + 1; omega) _).far (p := ⟨w.heap.size + 1 + 1, 4, none⟩) (by show w.heap.size + 1 ≠ w.heap.size + 1 + 1; omega) _).set _ _).set _ _).set _ _).set _ _).set _ _)
  have e0 : (((((((w3.setCell ⟨w.heap.size + 1 + 1, 3, none⟩ (.slice A3' x.2.2.2.1.length c3')).setCell ⟨w.heap.size + 1 + 1, 4, none⟩ (.int .i64 x.2.2.2.2)).setCell ⟨w.heap.size + 1, 0, none⟩ (.int .i64 x.1)).setCell ⟨w.heap.size + 1, 1, none⟩ (.slice A1' x.2.1.length c1')).setCell ⟨w.heap.size + 1, 2, none⟩ (.slice A2' x.2.2.1.length c2')).setCell ⟨w.heap.size + 1, 3, none⟩ (.slice A3' x.2.2.2.1.length c3')).setCell ⟨w.heap.size + 1, 4, none⟩ (.int .i64 x.2.2.2.2)).cell? ⟨w.heap.size + 1, 0, none⟩ = some (.int .i64 x.1) := hE.cell 0
  have e1 : (((((((w3.setCell ⟨w.heap.size + 1 + 1, 3, none⟩ (.slice A3' x.2.2.2.1.length c3')).setCell ⟨w.heap.size + 1 + 1, 4, none⟩ (.int .i64 x.2.2.2.2)).setCell ⟨w.heap.size + 1, 0, none⟩ (.int .i64 x.1)).setCell ⟨w.heap.size + 1, 1, none⟩ (.slice A1' x.2.1.length c1')).setCell ⟨w.heap.size + 1, 2, none⟩ (.slice A2' x.2.2.1.length c2')).setCell ⟨w.heap.size + 1, 3, none⟩ (.slice A3' x.2.2.2.1.length c3')).setCell ⟨w.heap.size + 1, 4, none⟩ (.int .i64 x.2.2.2.2)).cell? ⟨w.heap.size + 1, 1, none⟩ = some (.slice A1' x.2.1.length c1') := hE.cell 1
  have e2 : (((((((w3.setCell ⟨w.heap.size + 1 + 1, 3, none⟩ (.slice A3' x.2.2.2.1.length c3')).setCell ⟨w.heap.size + 1 + 1, 4, none⟩ (.int .i64 x.2.2.2.2)).setCell ⟨w.heap.size + 1, 0, none⟩ (.int .i64 x.1)).setCell ⟨w.heap.size + 1, 1, none⟩ (.slice A1' x.2.1.length c1')).setCell ⟨w.heap.size + 1, 2, none⟩ (.slice A2' x.2.2.1.length c2')).setCell ⟨w.heap.size + 1, 3, none⟩ (.slice A3' x.2.2.2.1.length c3')).setCell ⟨w.heap.size + 1, 4, none⟩ (.int .i64 x.2.2.2.2)).cell? ⟨w.heap.size + 1, 2, none⟩ = some (.slice A2' x.2.2.1.length c2') := hE.cell 2
  have e3 : (((((((w3.setCell ⟨w.heap.size + 1 + 1, 3, none⟩ (.slice A3' x.2.2.2.1.length c3')).setCell ⟨w.heap.size + 1 + 1, 4, none⟩ (.int .i64 x.2.2.2.2)).setCell ⟨w.heap.size + 1, 0, none⟩ (.int .i64 x.1)).setCell ⟨w.heap.size + 1, 1, none⟩ (.slice A1' x.2.1.length c1')).setCell ⟨w.heap.size + 1, 2, none⟩ (.slice A2' x.2.2.1.length c2')).setCell ⟨w.heap.size + 1, 3, none⟩ (.slice A3' x.2.2.2.1.length c3')).setCell ⟨w.heap.size + 1, 4, none⟩ (.int .i64 x.2.2.2.2)).cell? ⟨w.heap.size + 1, 3, none⟩ = some (.slice A3' x.2.2.2.1.length c3') := hE.cell 3
  have e4 : (((((((w3.setCell ⟨w.heap.size + 1 + 1, 3, none⟩ (.slice A3' x.2.2.2.1.length c3')).setCell ⟨w.heap.size + 1 + 1, 4, none⟩ (.int .i64 x.2.2.2.2)).setCell ⟨w.heap.size + 1, 0, none⟩ (.int .i64 x.1)).setCell ⟨w.heap.size + 1, 1, none⟩ (.slice A1' x.2.1.length c1')).setCell ⟨w.heap.size + 1, 2, none⟩ (.slice A2' x.2.2.1.length c2')).setCell ⟨w.heap.size + 1, 3, none⟩ (.slice A3' x.2.2.2.1.length c3')).setCell ⟨w.heap.size + 1, 4, none⟩ (.int .i64 x.2.2.2.2)).cell? ⟨w.heap.size + 1, 4, none⟩ = some (.int .i64 x.2.2.2.2) := hE.cell 4
  refine bodyPost_ret (v := .agg #[.int .i64 x.1, .slice A1' x.2.1.length c1', .slice A2' x.2.2.1.length c2', .slice A3' x.2.2.2.1.length c3', .int .i64 x.2.2.2.2]) (by simp [results, Try.results100, go_sem, e0, e1, e2, e3, e4]) rfl ?_
  have t1 : w.heap.size + 3 ≤ w1.heap.size := by have h1 := HBW1.out.size; simp only [World.size_alloc] at h1; omega
  have t2 : w.heap.size + 3 ≤ w2.heap.size := by have h1 := HBW1.out.size; simp only [World.size_alloc] at h1; have h2 := HBW2.out.size; simp only [World.size_setCell] at h2; omega
  have t3 : w.heap.size + 3 ≤ w3.heap.size := by have h1 := HBW1.out.size; simp only [World.size_alloc] at h1; have h2 := HBW3.out.size; simp only [World.size_setCell] at h2; omega
  refine ⟨[.int .i64 x.1, .slice A1' x.2.1.length c1', .slice A2' x.2.2.1.length c2', .slice A3' x.2.2.2.1.length c3', .int .i64 x.2.2.2.2], rfl, ?_, ?_⟩
  · have sE1 : So eInt (((((((w3.setCell ⟨w.heap.size + 1 + 1, 3, none⟩ (.slice A3' x.2.2.2.1.length c3')).setCell ⟨w.heap.size + 1 + 1, 4, none⟩ (.int .i64 x.2.2.2.2)).setCell ⟨w.heap.size + 1, 0, none⟩ (.int .i64 x.1)).setCell ⟨w.heap.size + 1, 1, none⟩ (.slice A1' x.2.1.length c1')).setCell ⟨w.heap.size + 1, 2, none⟩ (.slice A2' x.2.2.1.length c2')).setCell ⟨w.heap.size + 1, 3, none⟩ (.slice A3' x.2.2.2.1.length c3')).setCell ⟨w.heap.size + 1, 4, none⟩ (.int .i64 x.2.2.2.2)) (Iv w.heap.size w1.heap.size) _ _ x.2.1 := (HS1.out.keep (w' := (((((((w3.setCell ⟨w.heap.size + 1 + 1, 3, none⟩ (.slice A3' x.2.2.2.1.length c3')).setCell ⟨w.heap.size + 1 + 1, 4, none⟩ (.int .i64 x.2.2.2.2)).setCell ⟨w.heap.size + 1, 0, none⟩ (.int .i64 x.1)).setCell ⟨w.heap.size + 1, 1, none⟩ (.slice A1' x.2.1.length c1')).setCell ⟨w.heap.size + 1, 2, none⟩ (.slice A2' x.2.2.1.length c2')).setCell ⟨w.heap.size + 1, 3, none⟩ (.slice A3' x.2.2.2.1.length c3')).setCell ⟨w.heap.size + 1, 4, none⟩ (.int .i64 x.2.2.2.2))) fun b hb => ((((((((((((Lat.refl (w.heap.size + 3) w1).set (p := ⟨w.heap.size + 1 + 1, 1, none⟩) (by show w.heap.size + 1 + 1 < _; omega)).below HBW2.out).set (p := ⟨w.heap.size + 1 + 1, 2, none⟩) (by show w.heap.size + 1 + 1 < _; omega)).below HBW3.out).set (p := ⟨w.heap.size + 1 + 1, 3, none⟩) (by show w.heap.size + 1 + 1 < _; omega)).set (p := ⟨w.heap.size + 1 + 1, 4, none⟩) (by show w.heap.size + 1 + 1 < _; omega)).set (p := ⟨w.heap.size + 1, 0, none⟩) (by show w.heap.size + 1 < _; omega)).set (p := ⟨w.heap.size + 1, 1, none⟩) (by show w.heap.size + 1 < _; omega)).set (p := ⟨w.heap.size + 1, 2, none⟩) (by show w.heap.size + 1 < _; omega)).set (p := ⟨w.heap.size + 1, 3, none⟩) (by show w.heap.size + 1 < _; omega)).set (p := ⟨w.heap.size + 1, 4, none⟩) (by show w.heap.size + 1 < _; omega)).block b (by have h1 := hb.1; simp only [World.size_alloc, World.size_setCell] at h1; omega) hb.2).more (Iv.mono (by simp only [World.size_alloc]; omega) (by omega))
    have u2 : w1.heap.size ≤ w2.heap.size := by have := HBW2.out.size; simp only [World.size_setCell] at this; omega
    have sE2 : So eInt (((((((w3.setCell ⟨w.heap.size + 1 + 1, 3, none⟩ (.slice A3' x.2.2.2.1.length c3')).setCell ⟨w.heap.size + 1 + 1, 4, none⟩ (.int .i64 x.2.2.2.2)).setCell ⟨w.heap.size + 1, 0, none⟩ (.int .i64 x.1)).setCell ⟨w.heap.size + 1, 1, none⟩ (.slice A1' x.2.1.length c1')).setCell ⟨w.heap.size + 1, 2, none⟩ (.slice A2' x.2.2.1.length c2')).setCell ⟨w.heap.size + 1, 3, none⟩ (.slice A3' x.2.2.2.1.length c3')).setCell ⟨w.heap.size + 1, 4, none⟩ (.int .i64 x.2.2.2.2)) (Iv w1.heap.size w2.heap.size) _ _ x.2.2.1 := (HS2.out.keep (w' := (((((((w3.setCell ⟨w.heap.size + 1 + 1, 3, none⟩ (.slice A3' x.2.2.2.1.length c3')).setCell ⟨w.heap.size + 1 + 1, 4, none⟩ (.int .i64 x.2.2.2.2)).setCell ⟨w.heap.size + 1, 0, none⟩ (.int .i64 x.1)).setCell ⟨w.heap.size + 1, 1, none⟩ (.slice A1' x.2.1.length c1')).setCell ⟨w.heap.size + 1, 2, none⟩ (.slice A2' x.2.2.1.length c2')).setCell ⟨w.heap.size + 1, 3, none⟩ (.slice A3' x.2.2.2.1.length c3')).setCell ⟨w.heap.size + 1, 4, none⟩ (.int .i64 x.2.2.2.2))) fun b hb => ((((((((((Lat.refl (w.heap.size + 3) w2).set (p := ⟨w.heap.size + 1 + 1, 2, none⟩) (by show w.heap.size + 1 + 1 < _; omega)).below HBW3.out).set (p := ⟨w.heap.size + 1 + 1, 3, none⟩) (by show w.heap.size + 1 + 1 < _; omega)).set (p := ⟨w.heap.size + 1 + 1, 4, none⟩) (by show w.heap.size + 1 + 1 < _; omega)).set (p := ⟨w.heap.size + 1, 0, none⟩) (by show w.heap.size + 1 < _; omega)).set (p := ⟨w.heap.size + 1, 1, none⟩) (by show w.heap.size + 1 < _; omega)).set (p := ⟨w.heap.size + 1, 2, none⟩) (by show w.heap.size + 1 < _; omega)).set (p := ⟨w.heap.size + 1, 3, none⟩) (by show w.heap.size + 1 < _; omega)).set (p := ⟨w.heap.size + 1, 4, none⟩) (by show w.heap.size + 1 < _; omega)).block b (by have h1 := hb.1; simp only [World.size_alloc, World.size_setCell] at h1; omega) hb.2).more (Iv.mono (by simp only [World.size_setCell]; omega) (by omega))
    have u3 : w2.heap.size ≤ w3.heap.size := by have := HBW3.out.size; simp only [World.size_setCell] at this; omega
    have sE3 : So eInt (((((((w3.setCell ⟨w.heap.size + 1 + 1, 3, none⟩ (.slice A3' x.2.2.2.1.length c3')).setCell ⟨w.heap.size + 1 + 1, 4, none⟩ (.int .i64 x.2.2.2.2)).setCell ⟨w.heap.size + 1, 0, none⟩ (.int .i64 x.1)).setCell ⟨w.heap.size + 1, 1, none⟩ (.slice A1' x.2.1.length c1')).setCell ⟨w.heap.size + 1, 2, none⟩ (.slice A2' x.2.2.1.length c2')).setCell ⟨w.heap.size + 1, 3, none⟩ (.slice A3' x.2.2.2.1.length c3')).setCell ⟨w.heap.size + 1, 4, none⟩ (.int .i64 x.2.2.2.2)) (Iv w2.heap.size w3.heap.size) _ _ x.2.2.2.1 := (HS3.out.keep (w' := (((((((w3.setCell ⟨w.heap.size + 1 + 1, 3, none⟩ (.slice A3' x.2.2.2.1.length c3')).setCell ⟨w.heap.size + 1 + 1, 4, none⟩ (.int .i64 x.2.2.2.2)).setCell ⟨w.heap.size + 1, 0, none⟩ (.int .i64 x.1)).setCell ⟨w.heap.size + 1, 1, none⟩ (.slice A1' x.2.1.length c1')).setCell ⟨w.heap.size + 1, 2, none⟩ (.slice A2' x.2.2.1.length c2')).setCell ⟨w.heap.size + 1, 3, none⟩ (.slice A3' x.2.2.2.1.length c3')).setCell ⟨w.heap.size + 1, 4, none⟩ (.int .i64 x.2.2.2.2))) fun b hb => ((((((((Lat.refl (w.heap.size + 3) w3).set (p := ⟨w.heap.size + 1 + 1, 3, none⟩) (by show w.heap.size + 1 + 1 < _; omega)).set (p := ⟨w.heap.size + 1 + 1, 4, none⟩) (by show w.heap.size + 1 + 1 < _; omega)).set (p := ⟨w.heap.size + 1, 0, none⟩) (by show w.heap.size + 1 < _; omega)).set (p := ⟨w.heap.size + 1, 1, none⟩) (by show w.heap.size + 1 < _; omega)).set (p := ⟨w.heap.size + 1, 2, none⟩) (by show w.heap.size + 1 < _; omega)).set (p := ⟨w.heap.size + 1, 3, none⟩) (by show w.heap.size + 1 < _; omega)).set (p := ⟨w.heap.size + 1, 4, none⟩) (by show w.heap.size + 1 < _; omega)).block b (by have h1 := hb.1; simp only [World.size_alloc, World.size_setCell] at h1; omega) hb.2).more (Iv.mono (by simp only [World.size_setCell]; omega) (by omega))
    exact (oPrI G0.out (oPr (l := w.heap.size) (m := w1.heap.size) (oSl sE1) (oPr (l := w1.heap.size) (m := w2.heap.size) (oSl sE2) (oPr (l := w2.heap.size) (m := w3.heap.size) (oSl sE3) (oI G4.out) (by omega) (by first | omega | (simp only [World.size_setCell]; omega))) (by omega) (by first | omega | (simp only [World.size_setCell]; omega))) (by omega) (by first | omega | (simp only [World.size_setCell]; omega))))
  · exact (((((((BL3.out.setCell (p := ⟨w.heap.size + 1 + 1, 3, none⟩) (by show w.heap.size ≤ w.heap.size + 1 + 1; omega) _).setCell (p := ⟨w.heap.size + 1 + 1, 4, none⟩) (by show w.heap.size ≤ w.heap.size + 1 + 1; omega) _).setCell (p := ⟨w.heap.size + 1, 0, none⟩) (by show w.heap.size ≤ w.heap.size + 1; omega) _).setCell (p := ⟨w.heap.size + 1, 1, none⟩) (by show w.heap.size ≤ w.heap.size + 1; omega) _).setCell (p := ⟨w.heap.size + 1, 2, none⟩) (by show w.heap.size ≤ w.heap.size + 1; omega) _).setCell (p := ⟨w.heap.size + 1, 3, none⟩) (by show w.heap.size ≤ w.heap.size + 1; omega) _).setCell (p := ⟨w.heap.size + 1, 4, none⟩) (by show w.heap.size ≤ w.heap.size + 1; omega) _)

set_option maxHeartbeats 1000000 in
theorem to_MultiRuleS (A : Option Addr) (c : Nat) (xs : List tMultiRule) (w : World) (h : Sl eMultiRule w (Old w) A c xs) (hsm : cost_SMultiRule xs ≤ 1048576) :
    Calls Try.prog 63 #[.slice A xs.length c] w fun e w' => ∃ A' c', e = .returned (.slice A' xs.length c') ∧ So eMultiRule w' (Fr w w') A' c' xs ∧ Below w.heap.size w w' := by
  obtain ⟨i0, hi0, hz0, hz1, hz2⟩ := info_parts info_impl_MultiRule
  have hlen := h.len
  have hsl : xs.length ≤ 1048576 := by have : cost_SMultiRule xs = costL cost_MultiRule xs := rfl; unfold costL at this; omega
  have HCO := Lib.hid hsm; clear hsm
  have H := Lib.hid h; clear h
  go_enter Try.func63, Try.ntmps63
  go_wp2_with (at_make; refine wpList_make_full _ rfl _ _ 53 rfl w.heap.size 104 i0 _ 5 Try.underlying53 hi0 hz0 hz1 _ _ _ _ xs.length rfl rfl rfl rfl (by rw [hz2]; omega) (by unfold maxLen; omega) (Nat.le_refl _) ?_)
  intro w1 hown hgrow
  obtain ⟨cur, hB, hs, ht, hn1, hn2⟩ := Blk.of_own hown
  have HB := Lib.hid hB; clear hB
  have HS : Hid (cur.size = xs.length * 5) := by show _ = _; omega
  have hbel : Below w.heap.size w w1 := (Below.refl _ _).grown hgrow (Nat.le_refl _) (by simp)
  have HL := Lib.hid hbel; clear hbel
  clear hs ht hn1 hn2 hgrow hown hi0 hz0 hz1 hz2
  go_wp2_with fail
  go_loopw [4] (fun s4 wr => ∃ (k : Nat) (cur : Array Value), k ≤ xs.length ∧ s4 = .int .i64 k ∧ Hid (Below w.heap.size w wr) ∧ Hid (Blk wr w.heap.size 104 cur) ∧ Hid (cur.size = xs.length * 5) ∧ Hid (Filled eMultiRule wr w.heap.size (fun b => w.heap.size ≤ b) cur k xs)) (fun s4 _ => xs.length - (intOf s4).toNat)
  case atStart => exact ⟨0, cur, Nat.zero_le _, rfl, HL, HB, HS, Filled.zero⟩
  case round =>
    clear HB HS HL
    obtain ⟨k, cur, hk, rfl, HL, HB, HS, HF⟩ := hrel
    by_cases hlt : k < xs.length
    · have hltz : (k : Int) < (xs.length : Int) := by omega
      obtain ⟨b, off, es, rfl, hb, hR, hc⟩ := H.out.at hlt
      have HX : Hid (xs[k]? = some xs[k]) := List.getElem?_eq_getElem hlt
      have HR := Lib.hid (eMultiRule.on hR HL.out)
      have HCS : Hid (cost_MultiRule xs[k] ≤ 1048576) := by have h1 := cost_mem cost_MultiRule xs k hlt; have h2 : cost_SMultiRule xs = costL cost_MultiRule xs := rfl; have := HCO.out; show _ ≤ _; omega
      obtain ⟨Aq1, cq1, Aq2, cq2, Aq3, cq3, rfl, gq0, gq1, gq2, gq3, gq4⟩ := shape_MultiRule hR
      have d0 : wr.cell? ⟨b, off + k * 5, none⟩ = some (.int .i64 xs[k].1) := (below_olds HL.out _ hb).trans (hc 0 _ rfl)
      have d1 : wr.cell? ⟨b, off + k * 5 + 1, none⟩ = some (.slice Aq1 xs[k].2.1.length cq1) := (below_olds HL.out _ hb).trans (hc 1 _ rfl)
      have d2 : wr.cell? ⟨b, off + k * 5 + 2, none⟩ = some (.slice Aq2 xs[k].2.2.1.length cq2) := (below_olds HL.out _ hb).trans (hc 2 _ rfl)
      have d3 : wr.cell? ⟨b, off + k * 5 + 3, none⟩ = some (.slice Aq3 xs[k].2.2.2.1.length cq3) := (below_olds HL.out _ hb).trans (hc 3 _ rfl)
      have d4 : wr.cell? ⟨b, off + k * 5 + 4, none⟩ = some (.int .i64 xs[k].2.2.2.2) := (below_olds HL.out _ hb).trans (hc 4 _ rfl)
      clear hc gq0 gq1 gq2 gq3 gq4
      try clear hR
      obtain ⟨v0, hv0⟩ : ∃ v, cur[k * 5]? = some v := get_some (by have := HS.out; omega)
      obtain ⟨v1, hv1⟩ : ∃ v, cur[k * 5 + 1]? = some v := get_some (by have := HS.out; omega)
      obtain ⟨v2, hv2⟩ : ∃ v, cur[k * 5 + 2]? = some v := get_some (by have := HS.out; omega)
      obtain ⟨v3, hv3⟩ : ∃ v, cur[k * 5 + 3]? = some v := get_some (by have := HS.out; omega)
      obtain ⟨v4, hv4⟩ : ∃ v, cur[k * 5 + 4]? = some v := get_some (by have := HS.out; omega)
      have HV0 := Lib.hid hv0; clear hv0
      have HV1 := Lib.hid hv1; clear hv1
      have HV2 := Lib.hid hv2; clear hv2
      have HV3 := Lib.hid hv3; clear hv3
      have HV4 := Lib.hid hv4; clear hv4
      generalize xs[k] = y at d0 d1 d2 d3 d4 HX HR HCS
      go_wp2_with fail
      refine (to_MultiRule _ y _ HR.out HCS.out).mono ?_
      rintro e w2 ⟨es2, rfl, ho2, hb2⟩
      have hR2 := eMultiRule.read ho2
      have HO2 := Lib.hid ho2; clear ho2
      obtain ⟨Ar1, cr1, Ar2, cr2, Ar3, cr3, rfl, gr0, gr1, gr2, gr3, gr4⟩ := shape_MultiRule hR2
      clear gr0 gr1 gr2 gr3 gr4
      try clear hR2
      have hB2 := HB.out.on hb2
      have e0 : w2.cell? ⟨w.heap.size, k * 5, none⟩ = some v0 := (hB2.cell _).trans HV0.out
      have e1 : w2.cell? ⟨w.heap.size, k * 5 + 1, none⟩ = some v1 := (hB2.cell _).trans HV1.out
      have e2 : w2.cell? ⟨w.heap.size, k * 5 + 2, none⟩ = some v2 := (hB2.cell _).trans HV2.out
      have e3 : w2.cell? ⟨w.heap.size, k * 5 + 3, none⟩ = some v3 := (hB2.cell _).trans HV3.out
      have e4 : w2.cell? ⟨w.heap.size, k * 5 + 4, none⟩ = some v4 := (hB2.cell _).trans HV4.out
      have f0 := hB2.frozen (k * 5)
      have f1 := hB2.frozen (k * 5 + 1)
      have f2 := hB2.frozen (k * 5 + 2)
      have f3 := hB2.frozen (k * 5 + 3)
      have f4 := hB2.frozen (k * 5 + 4)
      have HB2 := Lib.hid hB2; clear hB2
      have HL2 := Lib.hid hb2; clear hb2
      go_wp2
      go_roundw
      case rel =>
        have hL := HL.out
        have hL2 := HL2.out
        have hbs : ∀ b, b ≠ w.heap.size → ∀ W : World, (∀ b, b ≠ w.heap.size → W.heap[b]? = w2.heap[b]?) → W.heap[b]? = w2.heap[b]? := fun b hb W h => h b hb
        have hW : ∀ b, b ≠ w.heap.size → (((((w2.setCell ⟨w.heap.size, k * 5, none⟩ (.int .i64 y.1)).setCell ⟨w.heap.size, k * 5 + 1, none⟩ (.slice Ar1 y.2.1.length cr1)).setCell ⟨w.heap.size, k * 5 + 2, none⟩ (.slice Ar2 y.2.2.1.length cr2)).setCell ⟨w.heap.size, k * 5 + 3, none⟩ (.slice Ar3 y.2.2.2.1.length cr3)).setCell ⟨w.heap.size, k * 5 + 4, none⟩ (.int .i64 y.2.2.2.2)).heap[b]? = w2.heap[b]? := fun b hb => by
          rw [Below.heap_setCell _ _ _ _ (by exact hb), Below.heap_setCell _ _ _ _ (by exact hb), Below.heap_setCell _ _ _ _ (by exact hb), Below.heap_setCell _ _ _ _ (by exact hb), Below.heap_setCell _ _ _ _ (by exact hb)]
        have hsz : (((((w2.setCell ⟨w.heap.size, k * 5, none⟩ (.int .i64 y.1)).setCell ⟨w.heap.size, k * 5 + 1, none⟩ (.slice Ar1 y.2.1.length cr1)).setCell ⟨w.heap.size, k * 5 + 2, none⟩ (.slice Ar2 y.2.2.1.length cr2)).setCell ⟨w.heap.size, k * 5 + 3, none⟩ (.slice Ar3 y.2.2.2.1.length cr3)).setCell ⟨w.heap.size, k * 5 + 4, none⟩ (.int .i64 y.2.2.2.2)).heap.size = w2.heap.size := by simp [World.setCell]
        refine ⟨k + 1, setAll cur (k * 5) [.int .i64 y.1, .slice Ar1 y.2.1.length cr1, .slice Ar2 y.2.2.1.length cr2, .slice Ar3 y.2.2.2.1.length cr3, .int .i64 y.2.2.2.2], by omega, by go_num, ((((((hL.trans (hL2.mono hL.size)).setCell (Nat.le_refl _) _).setCell (Nat.le_refl _) _).setCell (Nat.le_refl _) _).setCell (Nat.le_refl _) _).setCell (Nat.le_refl _) _), (((((HB2.out.set _ _).set _ _).set _ _).set _ _).set _ _), (size_setAll _ _ _).trans HS.out, ?_⟩
        have hstep := (HF.out).step (w' := ((((w2.setCell ⟨w.heap.size, k * 5, none⟩ (.int .i64 y.1)).setCell ⟨w.heap.size, k * 5 + 1, none⟩ (.slice Ar1 y.2.1.length cr1)).setCell ⟨w.heap.size, k * 5 + 2, none⟩ (.slice Ar2 y.2.2.1.length cr2)).setCell ⟨w.heap.size, k * 5 + 3, none⟩ (.slice Ar3 y.2.2.2.1.length cr3)).setCell ⟨w.heap.size, k * 5 + 4, none⟩ (.int .i64 y.2.2.2.2)) (T0 := Fr wr w2) (es := [.int .i64 y.1, .slice Ar1 y.2.1.length cr1, .slice Ar2 y.2.2.1.length cr2, .slice Ar3 y.2.2.2.1.length cr3, .int .i64 y.2.2.2.2]) (fun b hb hlt => (hW b hb).trans (hL2.block b hlt)) (by rw [hsz]; exact hL2.size) HX.out
          (eMultiRule.okeep HO2.out fun b hb => hW b (fun e => by have := HB.out.lt; have := hb.1; omega)) (fun b hb => ⟨Nat.le_trans hL.size hb.1, fun e => by have := HB.out.lt; have := hb.1; omega, hb.1, by rw [hsz]; exact hb.2⟩) (by have := HS.out; show (k + 1) * 5 ≤ _; omega)
        exact hstep
      case measure => simp [intOf]; omega
    · have hltz : ¬ (k : Int) < (xs.length : Int) := by omega
      obtain rfl : k = xs.length := by omega
      go_wp2
      go_ret
      exact ⟨_, _, rfl, HF.out.soFr HB.out (Nat.le_refl _) (by unfold maxLen; omega), HL.out⟩

set_option maxRecDepth 100000 in
set_option maxHeartbeats 2000000 in
theorem to_Multi (es : List Value) (x : tMulti) (w : World) (h : eMulti.R w (Old w) es x) (hcost : cost_Multi x ≤ 1048576) :
    Calls Try.prog 28 #[.agg es.toArray] w fun e w' => ∃ es', e = .returned (.agg es'.toArray) ∧ eMulti.O w' (Fr w w') es' x ∧ Below w.heap.size w w' := by
  obtain ⟨A3, c3, rfl, g0, g1, g2, g3⟩ := shape_Multi h
  have HC : Hid (cost_Multi x ≤ 1048576) := hcost
  unfold cost_Multi at hcost
  have HB0 : Hid (Below w.heap.size w (((w.alloc (.cells #[.int .i64 x.1, .int .i64 x.2.1, .int .i64 x.2.2.1, .slice A3 x.2.2.2.length c3] 48)).alloc (.cells #[.int .i64 0, .int .i64 0, .int .i64 0, .slice none 0 0] 55)).alloc (.cells #[.int .i64 x.1, .int .i64 x.2.1, .int .i64 x.2.2.1, .slice none 0 0] 55))) := by show Below _ _ _; go_grown
  have hc3 : cost_SMultiRule x.2.2.2 ≤ 1048576 := by omega
  have HC3 := Lib.hid hc3; clear hc3
  have K3 := Lib.hid g3; clear g3
  have G0 := Lib.hid g0; clear g0
  have G1 := Lib.hid g1; clear g1
  have G2 := Lib.hid g2; clear g2
  clear hcost h
  go_enter Try.func28, Try.ntmps28
  go_wp2_with fail
  refine (to_MultiRuleS _ _ x.2.2.2 _ (by exact K3.out.on HB0.out) HC3.out).mono ?_
  rintro e w1 ⟨A3', c3', rfl, hs, hb⟩
  have HS1 := Lib.hid hs; clear hs
  have BL1 := Lib.hid (HB0.out.trans (hb.mono HB0.out.size))
  have HBW1 := Lib.hid hb; clear hb
  have HX := Lib.hid ((((Blk.new w 48 #[.int .i64 x.1, .int .i64 x.2.1, .int .i64 x.2.2.1, .slice A3 x.2.2.2.length c3]).alloc _).alloc _).on HBW1.out)
  have HR := Lib.hid (((Blk.new1 w _ 55 #[.int .i64 0, .int .i64 0, .int .i64 0, .slice none 0 0]).alloc _).on HBW1.out)
  have HO : Hid (Blk w1 (w.heap.size + 1 + 1) 55 #[.int .i64 x.1, .int .i64 x.2.1, .int .i64 x.2.2.1, .slice none 0 0]) := (Blk.new2 w _ _ 55 #[.int .i64 x.1, .int .i64 x.2.1, .int .i64 x.2.2.1, .slice none 0 0]).on HBW1.out
  have x0 : w1.cell? ⟨w.heap.size, 0, none⟩ = some (.int .i64 x.1) := HX.out.cell 0
  have o0 : w1.cell? ⟨w.heap.size + 1 + 1, 0, none⟩ = some (.int .i64 x.1) := HO.out.cell 0
  have r0 : w1.cell? ⟨w.heap.size + 1, 0, none⟩ = some (.int .i64 0) := HR.out.cell 0
  have p0 : w1.frozen? ⟨w.heap.size + 1 + 1, 0, none⟩ = false := HO.out.frozen 0
  have q0 : w1.frozen? ⟨w.heap.size + 1, 0, none⟩ = false := HR.out.frozen 0
  have x1 : w1.cell? ⟨w.heap.size, 1, none⟩ = some (.int .i64 x.2.1) := HX.out.cell 1
  have o1 : w1.cell? ⟨w.heap.size + 1 + 1, 1, none⟩ = some (.int .i64 x.2.1) := HO.out.cell 1
  have r1 : w1.cell? ⟨w.heap.size + 1, 1, none⟩ = some (.int .i64 0) := HR.out.cell 1
  have p1 : w1.frozen? ⟨w.heap.size + 1 + 1, 1, none⟩ = false := HO.out.frozen 1
  have q1 : w1.frozen? ⟨w.heap.size + 1, 1, none⟩ = false := HR.out.frozen 1
  have x2 : w1.cell? ⟨w.heap.size, 2, none⟩ = some (.int .i64 x.2.2.1) := HX.out.cell 2
  have o2 : w1.cell? ⟨w.heap.size + 1 + 1, 2, none⟩ = some (.int .i64 x.2.2.1) := HO.out.cell 2
  have r2 : w1.cell? ⟨w.heap.size + 1, 2, none⟩ = some (.int .i64 0) := HR.out.cell 2
  have p2 : w1.frozen? ⟨w.heap.size + 1 + 1, 2, none⟩ = false := HO.out.frozen 2
  have q2 : w1.frozen? ⟨w.heap.size + 1, 2, none⟩ = false := HR.out.frozen 2
  have x3 : w1.cell? ⟨w.heap.size, 3, none⟩ = some (.slice A3 x.2.2.2.length c3) := HX.out.cell 3
  have o3 : w1.cell? ⟨w.heap.size + 1 + 1, 3, none⟩ = some (.slice none 0 0) := HO.out.cell 3
  have r3 : w1.cell? ⟨w.heap.size + 1, 3, none⟩ = some (.slice none 0 0) := HR.out.cell 3
  have p3 : w1.frozen? ⟨w.heap.size + 1 + 1, 3, none⟩ = false := HO.out.frozen 3
  have q3 : w1.frozen? ⟨w.heap.size + 1, 3, none⟩ = false := HR.out.frozen 3
  go_wp2
  have hE : Blk (((((w1.setCell ⟨w.heap.size + 1 + 1, 3, none⟩ (.slice A3' x.2.2.2.length c3')).setCell ⟨w.heap.size + 1, 0, none⟩ (.int .i64 x.1)).setCell ⟨w.heap.size + 1, 1, none⟩ (.int .i64 x.2.1)).setCell ⟨w.heap.size + 1, 2, none⟩ (.int .i64 x.2.2.1)).setCell ⟨w.heap.size + 1, 3, none⟩ (.slice A3' x.2.2.2.length c3')) (w.heap.size + 1) 55 #[.int .i64 x.1, .int .i64 x.2.1, .int .i64 x.2.2.1, .slice A3' x.2.2.2.length c3'] := (((((HR.out.far (p := ⟨w.heap.size + 1 + 1, 3, none⟩) (by show w.heap.size + 1 ≠ w.heap.size + 1 + 1; omega) _).set _ _).set _ _).set _ _).set _ _)
  have e0 : (((((w1.setCell ⟨w.heap.size + 1 + 1, 3, none⟩ (.slice A3' x.2.2.2.length c3')).setCell ⟨w.heap.size + 1, 0, none⟩ (.int .i64 x.1)).setCell ⟨w.heap.size + 1, 1, none⟩ (.int .i64 x.2.1)).setCell ⟨w.heap.size + 1, 2, none⟩ (.int .i64 x.2.2.1)).setCell ⟨w.heap.size + 1, 3, none⟩ (.slice A3' x.2.2.2.length c3')).cell? ⟨w.heap.size + 1, 0, none⟩ = some (.int .i64 x.1) := hE.cell 0
  have e1 : (((((w1.setCell ⟨w.heap.size + 1 + 1, 3, none⟩ (.slice A3' x.2.2.2.length c3')).setCell ⟨w.heap.size + 1, 0, none⟩ (.int .i64 x.1)).setCell ⟨w.heap.size + 1, 1, none⟩ (.int .i64 x.2.1)).setCell ⟨w.heap.size + 1, 2, none⟩ (.int .i64 x.2.2.1)).setCell ⟨w.heap.size + 1, 3, none⟩ (.slice A3' x.2.2.2.length c3')).cell? ⟨w.heap.size + 1, 1, none⟩ = some (.int .i64 x.2.1) := hE.cell 1
  have e2 : (((((w1.setCell ⟨w.heap.size + 1 + 1, 3, none⟩ (.slice A3' x.2.2.2.length c3')).setCell ⟨w.heap.size + 1, 0, none⟩ (.int .i64 x.1)).setCell ⟨w.heap.size + 1, 1, none⟩ (.int .i64 x.2.1)).setCell ⟨w.heap.size + 1, 2, none⟩ (.int .i64 x.2.2.1)).setCell ⟨w.heap.size + 1, 3, none⟩ (.slice A3' x.2.2.2.length c3')).cell? ⟨w.heap.size + 1, 2, none⟩ = some (.int .i64 x.2.2.1) := hE.cell 2
  have e3 : (((((w1.setCell ⟨w.heap.size + 1 + 1, 3, none⟩ (.slice A3' x.2.2.2.length c3')).setCell ⟨w.heap.size + 1, 0, none⟩ (.int .i64 x.1)).setCell ⟨w.heap.size + 1, 1, none⟩ (.int .i64 x.2.1)).setCell ⟨w.heap.size + 1, 2, none⟩ (.int .i64 x.2.2.1)).setCell ⟨w.heap.size + 1, 3, none⟩ (.slice A3' x.2.2.2.length c3')).cell? ⟨w.heap.size + 1, 3, none⟩ = some (.slice A3' x.2.2.2.length c3') := hE.cell 3
  refine bodyPost_ret (v := .agg #[.int .i64 x.1, .int .i64 x.2.1, .int .i64 x.2.2.1, .slice A3' x.2.2.2.length c3']) (by simp [results, Try.results28, go_sem, e0, e1, e2, e3]) rfl ?_
  have t1 : w.heap.size + 3 ≤ w1.heap.size := by have h1 := HBW1.out.size; simp only [World.size_alloc] at h1; omega
  refine ⟨[.int .i64 x.1, .int .i64 x.2.1, .int .i64 x.2.2.1, .slice A3' x.2.2.2.length c3'], rfl, ?_, ?_⟩
  · have sE1 : So eMultiRule (((((w1.setCell ⟨w.heap.size + 1 + 1, 3, none⟩ (.slice A3' x.2.2.2.length c3')).setCell ⟨w.heap.size + 1, 0, none⟩ (.int .i64 x.1)).setCell ⟨w.heap.size + 1, 1, none⟩ (.int .i64 x.2.1)).setCell ⟨w.heap.size + 1, 2, none⟩ (.int .i64 x.2.2.1)).setCell ⟨w.heap.size + 1, 3, none⟩ (.slice A3' x.2.2.2.length c3')) (Iv w.heap.size (((((w1.setCell ⟨w.heap.size + 1 + 1, 3, none⟩ (.slice A3' x.2.2.2.length c3')).setCell ⟨w.heap.size + 1, 0, none⟩ (.int .i64 x.1)).setCell ⟨w.heap.size + 1, 1, none⟩ (.int .i64 x.2.1)).setCell ⟨w.heap.size + 1, 2, none⟩ (.int .i64 x.2.2.1)).setCell ⟨w.heap.size + 1, 3, none⟩ (.slice A3' x.2.2.2.length c3')).heap.size) _ _ x.2.2.2 := (HS1.out.keep (w' := (((((w1.setCell ⟨w.heap.size + 1 + 1, 3, none⟩ (.slice A3' x.2.2.2.length c3')).setCell ⟨w.heap.size + 1, 0, none⟩ (.int .i64 x.1)).setCell ⟨w.heap.size + 1, 1, none⟩ (.int .i64 x.2.1)).setCell ⟨w.heap.size + 1, 2, none⟩ (.int .i64 x.2.2.1)).setCell ⟨w.heap.size + 1, 3, none⟩ (.slice A3' x.2.2.2.length c3'))) fun b hb => ((((((Lat.refl (w.heap.size + 3) w1).set (p := ⟨w.heap.size + 1 + 1, 3, none⟩) (by show w.heap.size + 1 + 1 < _; omega)).set (p := ⟨w.heap.size + 1, 0, none⟩) (by show w.heap.size + 1 < _; omega)).set (p := ⟨w.heap.size + 1, 1, none⟩) (by show w.heap.size + 1 < _; omega)).set (p := ⟨w.heap.size + 1, 2, none⟩) (by show w.heap.size + 1 < _; omega)).set (p := ⟨w.heap.size + 1, 3, none⟩) (by show w.heap.size + 1 < _; omega)).block b (by have h1 := hb.1; simp only [World.size_alloc, World.size_setCell] at h1; omega) hb.2).more (Iv.mono (by simp only [World.size_alloc]; omega) (by simp only [World.size_setCell]; omega))
    exact (oPrI G0.out (oPrI G1.out (oPrI G2.out (oSl sE1))))
  · exact (((((BL1.out.setCell (p := ⟨w.heap.size + 1 + 1, 3, none⟩) (by show w.heap.size ≤ w.heap.size + 1 + 1; omega) _).setCell (p := ⟨w.heap.size + 1, 0, none⟩) (by show w.heap.size ≤ w.heap.size + 1; omega) _).setCell (p := ⟨w.heap.size + 1, 1, none⟩) (by show w.heap.size ≤ w.heap.size + 1; omega) _).setCell (p := ⟨w.heap.size + 1, 2, none⟩) (by show w.heap.size ≤ w.heap.size + 1; omega) _).setCell (p := ⟨w.heap.size + 1, 3, none⟩) (by show w.heap.size ≤ w.heap.size + 1; omega) _)

theorem i64_small {x : Int} (h0 : 0 ≤ x) (h1 : x ≤ 1000000000000) : I64 x := ⟨by omega, by omega⟩

/-- How many numbers a list of elements takes. -/
def cntL {α : Type} (c : α → Nat) (xs : List α) : Nat := (xs.map c).sum

/-- The elements marked one after another from k on. -/
def mkL {α : Type} (f : α → Int → α) (c : α → Nat) : List α → Int → List α
  | [], _ => []
  | x :: xs, k => f x k :: mkL f c xs (k + c x)

theorem mkL_len {α : Type} (f : α → Int → α) (c : α → Nat) : ∀ (xs : List α) (k : Int), (mkL f c xs k).length = xs.length
  | [], _ => rfl
  | x :: xs, k => by rw [mkL, List.length_cons, mkL_len f c xs, List.length_cons]

theorem mkL_append {α : Type} (f : α → Int → α) (c : α → Nat) : ∀ (xs ys : List α) (k : Int), mkL f c (xs ++ ys) k = mkL f c xs k ++ mkL f c ys (k + cntL c xs)
  | [], ys, k => by simp [mkL, cntL]
  | x :: xs, ys, k => by
    rw [List.cons_append, mkL, mkL, mkL_append f c xs ys, List.cons_append]
    have : k + (c x : Int) + (cntL c xs : Int) = k + (cntL c (x :: xs) : Int) := by unfold cntL; simp only [List.map_cons, List.sum_cons]; omega
    rw [this]

theorem cntL_take {α : Type} (c : α → Nat) (xs : List α) (i : Nat) (h : i < xs.length) : cntL c (xs.take (i + 1)) = cntL c (xs.take i) + c xs[i] := costL_take c xs i h

theorem cntL_le {α : Type} (c : α → Nat) (xs : List α) (i : Nat) : cntL c (xs.take i) ≤ cntL c xs := cost_le c xs i

/-- What a marking loop has made after i rounds. -/
def mkTo {α : Type} (f : α → Int → α) (c : α → Nat) (xs : List α) (k : Int) (i : Nat) : List α := mkL f c (xs.take i) k ++ xs.drop i

theorem mkTo_zero {α : Type} (f : α → Int → α) (c : α → Nat) (xs : List α) (k : Int) : mkTo f c xs k 0 = xs := by simp [mkTo, mkL]

theorem mkTo_len {α : Type} (f : α → Int → α) (c : α → Nat) (xs : List α) (k : Int) (i : Nat) : (mkTo f c xs k i).length = xs.length := by
  unfold mkTo; rw [List.length_append, mkL_len, List.length_take, List.length_drop]; omega

theorem mkTo_end {α : Type} (f : α → Int → α) (c : α → Nat) (xs : List α) (k : Int) : mkTo f c xs k xs.length = mkL f c xs k := by simp [mkTo]

theorem mkTo_get {α : Type} (f : α → Int → α) (c : α → Nat) (xs : List α) (k : Int) (i : Nat) (h : i < xs.length) : (mkTo f c xs k i)[i]? = some xs[i] := by
  unfold mkTo
  rw [List.getElem?_append_right (by rw [mkL_len, List.length_take]; omega), mkL_len, List.length_take, List.getElem?_drop, show i + (i - min i xs.length) = i from by omega, List.getElem?_eq_getElem h]

theorem mkTo_step {α : Type} (f : α → Int → α) (c : α → Nat) (xs : List α) (k : Int) (i : Nat) (h : i < xs.length) : (mkTo f c xs k i).set i (f xs[i] (k + cntL c (xs.take i))) = mkTo f c xs k (i + 1) := by
  have hl : (mkL f c (xs.take i) k).length = i := by rw [mkL_len, List.length_take]; omega
  unfold mkTo
  rw [List.take_succ_eq_append_getElem h, mkL_append, List.drop_eq_getElem_cons h, List.set_append_right _ _ (by omega), hl, Nat.sub_self, List.set_cons_zero]
  simp [mkL]

theorem mkL_get {α : Type} (f : α → Int → α) (c : α → Nat) (xs : List α) (k : Int) (i : Nat) (h : i < xs.length) : (mkL f c xs k)[i]? = some (f xs[i] (k + cntL c (xs.take i))) := by
  have h1 : mkL f c xs k = mkL f c (xs.take i) k ++ mkL f c (xs.drop i) (k + cntL c (xs.take i)) := by rw [← mkL_append, List.take_append_drop]
  have hl : (mkL f c (xs.take i) k).length = i := by rw [mkL_len, List.length_take]; omega
  rw [h1, List.getElem?_append_right (by omega), hl, Nat.sub_self, List.drop_eq_getElem_cons h]
  rfl

def mk_i (_ : Int) (k : Int) : Int := k

def ct_i (_ : Int) : Nat := 1

def mk_L (xs : List Int) (k : Int) : List Int := mkL mk_i ct_i xs k

def ct_L (xs : List Int) : Nat := cntL ct_i xs

/-- As an element of a slice: every field is marked. -/
def mk_MultiRule (x : tMultiRule) (k : Int) : tMultiRule := (k, mk_L x.2.1 (k + 1), mk_L x.2.2.1 (k + 1 + ct_L x.2.1), mk_L x.2.2.2.1 (k + 1 + ct_L x.2.1 + ct_L x.2.2.1), k + 1 + ct_L x.2.1 + ct_L x.2.2.1 + ct_L x.2.2.2.1)

def ct_MultiRule (x : tMultiRule) : Nat := 1 + ct_L x.2.1 + ct_L x.2.2.1 + ct_L x.2.2.2.1 + 1

def mk_SMultiRule (xs : List tMultiRule) (k : Int) : List tMultiRule := mkL mk_MultiRule ct_MultiRule xs k

def ct_SMultiRule (xs : List tMultiRule) : Nat := cntL ct_MultiRule xs

/-- By value: what its slices lead to is marked. -/
def mv_Multi (x : tMulti) (k : Int) : tMulti := (x.1, x.2.1, x.2.2.1, mk_SMultiRule x.2.2.2 (k))

def cv_Multi (x : tMulti) : Nat := ct_SMultiRule x.2.2.2

set_option maxHeartbeats 1000000 in
theorem mark_L_c (A : Option Addr) (c : Nat) (xs : List Int) (k : Int) (w : World) (S : Nat → Prop) (h : So eInt w S A c xs) (_hS : ∀ b, S b → b < w.heap.size) (hk : 0 ≤ k) (hk' : k + (ct_L xs : Int) ≤ 1000000000000) :
    Calls Try.prog 23 #[.slice A xs.length c, .int .i64 k] w fun e w' => e = .returned (.int .i64 (k + (ct_L xs : Int))) ∧ So eInt w' S A c (mk_L xs k) ∧ Chg S w w' := by
  have hlen := h.sl.len
  clear _hS
  have H := Lib.hid h; clear h
  have HC : Hid (ct_L xs = cntL ct_i xs) := rfl
  go_enter Try.func23, Try.ntmps23
  go_wp2
  go_loopw [1, 5] (fun s1 s5 wr => ∃ (i : Nat) (q : Int), i ≤ xs.length ∧ s5 = .int .i64 i ∧ s1 = .int .i64 q ∧ 0 ≤ q ∧ q ≤ 1000000000000 ∧ Hid (q = k + (cntL ct_i (xs.take i) : Int)) ∧ Hid (So eInt wr S A c (mkTo mk_i ct_i xs k i)) ∧ Hid (Chg S w wr)) (fun _ s5 _ => xs.length - (intOf s5).toNat)
  case atStart => exact ⟨0, k, Nat.zero_le _, rfl, rfl, hk, by omega, by show _ = _; simp [cntL], by show So _ _ _ _ _ _; rw [mkTo_zero]; exact H.out, Chg.refl _ _⟩
  case round =>
    obtain ⟨i, q, hi, rfl, rfl, hq0, hq1, HQ, HS, HG⟩ := hrel
    by_cases hlt : i < xs.length
    · have hltz : (i : Int) < (xs.length : Int) := by omega
      have HQ2 : Hid (q + 1 ≤ 1000000000000 ∧ q + 1 = k + (cntL ct_i (xs.take (i + 1)) : Int)) := by
        have h1 := cntL_take ct_i xs i hlt
        have h2 := cntL_le ct_i xs (i + 1)
        have h3 : ct_i xs[i] = 1 := rfl
        have h4 := HQ.out
        have h5 := HC.out
        refine ⟨?_, ?_⟩ <;> omega
      have hq2 := HQ2.out.1
      obtain ⟨b, off, t, cur, T, es, rfl, hSb, hB, hT, hO, hcells, hre⟩ := HS.out.at (k := i) (by rw [mkTo_len]; exact hlt)
      have hel := eInt.len (eInt.read hO)
      obtain ⟨v0, hv0⟩ : ∃ v, cur[off + i]? = some v := ⟨_, by have h := hcells 0 _ (List.getElem?_eq_getElem (by rw [hel]; decide)); rw [show off + i * eInt.size + 0 = off + i from by show off + i * 1 + 0 = _; omega] at h; exact h⟩
      have e0 : wr.cell? ⟨b, off + i, none⟩ = some v0 := (hB.cell _).trans hv0
      have f0 := hB.frozen (off + i)
      clear hv0
      have HB := Lib.hid hB; clear hB hcells hel
      have HRE : Hid (So eInt (wr.setCell ⟨b, off + i, none⟩ (.int .i64 (q))) S (some ⟨b, off, none⟩) c (mkTo mk_i ct_i xs k (i + 1))) := by
        show So _ _ _ _ _ _
        rw [← mkTo_step mk_i ct_i xs k i hlt, ← HQ.out]
        refine hre _ [.int .i64 (q)] _ (oI (i64_small (by omega) (by omega))) ?_ (fun m hm hne _ => ?_)
        · rw [show off + i * eInt.size = off + i from by show off + i * 1 = _; omega]; exact HB.out.set _ _
        · rw [Below.heap_setCell _ _ _ _ (by exact hne)]
      clear hre hO hT
      have HG2 : Hid (Chg S w (wr.setCell ⟨b, off + i, none⟩ (.int .i64 (q)))) := (HG.out.set (by exact hSb) _)
      have HSB := Lib.hid hSb; clear hSb
      go_wp2
      go_roundw
      case rel => exact ⟨i + 1, q + 1, by omega, by go_num, rfl, by omega, by omega, by show _ = _; have := HQ2.out.2; omega, HRE.out, HG2.out⟩
      case measure => simp [intOf]; omega
    · have hltz : ¬ (i : Int) < (xs.length : Int) := by omega
      obtain rfl : i = xs.length := by omega
      have h2 := HQ.out
      rw [List.take_length] at h2
      have h3 := HS.out
      rw [mkTo_end] at h3
      have H2 := Lib.hid h2; have H3 := Lib.hid h3; clear h2 h3
      go_wp2
      go_ret
      exact ⟨ret_int (by rw [H2.out, HC.out]), H3.out, HG.out⟩

set_option maxHeartbeats 1000000 in
theorem held_L_c (A : Option Addr) (c : Nat) (xs : List Int) (k : Int) (w : World) (h : Sl eInt w (Old w) A c (mk_L xs k)) (hk : 0 ≤ k) (hk' : k + (ct_L xs : Int) ≤ 1000000000000) :
    Calls Try.prog 25 #[.slice A xs.length c, .int .i64 k] w fun e w' => e = .returned (.int .i64 (k + (ct_L xs : Int))) ∧ Below w.heap.size w w' := by
  have hlen := h.len
  have hL : (mk_L xs k).length = xs.length := mkL_len _ _ _ _
  rw [hL] at hlen
  have HLen := Lib.hid hL; clear hL
  have H := Lib.hid h; clear h
  have HC : Hid (ct_L xs = cntL ct_i xs) := rfl
  go_enter Try.func25, Try.ntmps25
  go_wp2
  go_loop [1, 5] (fun s1 s5 => ∃ (i : Nat) (q : Int), i ≤ xs.length ∧ s5 = .int .i64 i ∧ s1 = .int .i64 q ∧ 0 ≤ q ∧ q ≤ 1000000000000 ∧ Hid (q = k + (cntL ct_i (xs.take i) : Int))) (fun _ s5 => xs.length - (intOf s5).toNat)
  case atStart => exact ⟨0, k, Nat.zero_le _, rfl, rfl, hk, by omega, by show _ = _; simp [cntL]⟩
  case round =>
    obtain ⟨i, q, hi, rfl, rfl, hq0, hq1, HQ⟩ := hrel
    by_cases hlt : i < xs.length
    · have hltz : (i : Int) < (xs.length : Int) := by omega
      have HQ2 : Hid (q + 1 ≤ 1000000000000 ∧ q + 1 = k + (cntL ct_i (xs.take (i + 1)) : Int)) := by
        have h1 := cntL_take ct_i xs i hlt
        have h2 := cntL_le ct_i xs (i + 1)
        have h3 : ct_i xs[i] = 1 := rfl
        have h4 := HQ.out
        have h5 := HC.out
        refine ⟨?_, ?_⟩ <;> omega
      have hq2 := HQ2.out.1
      have hlt2 : i < (mk_L xs k).length := by rw [HLen.out]; exact hlt
      have HE : Hid ((mk_L xs k)[i] = mk_i xs[i] q) := by
        have h1 := mkL_get mk_i ct_i xs k i hlt
        rw [← HQ.out] at h1
        exact Option.some.inj ((List.getElem?_eq_getElem hlt2).symm.trans h1)
      obtain ⟨b, off, es, rfl, hb, hR, hc⟩ := H.out.at1 rfl hlt2
      rw [HE.out] at hR
      obtain ⟨rfl, gq⟩ := hR
      have d0 : w.cell? ⟨b, off + i, none⟩ = some (.int .i64 q) := hc _ rfl
      have t0 : (q != q) = false := by simp
      clear hc gq
      try clear hR
      go_wp2
      go_round
      case rel => exact ⟨i + 1, q + 1, by omega, by go_num, rfl, by omega, by omega, by show _ = _; have := HQ2.out.2; omega⟩
      case measure => simp [intOf]; omega
    · have hltz : ¬ (i : Int) < (xs.length : Int) := by omega
      obtain rfl : i = xs.length := by omega
      have h2 := HQ.out
      rw [List.take_length] at h2
      have H2 := Lib.hid h2; clear h2
      go_wp2
      go_ret
      exact ⟨ret_int (by rw [H2.out, HC.out]), Below.refl _ _⟩

theorem cntL_const {α : Type} (c : α → Nat) (n : Nat) (xs : List α) (h : ∀ x, c x = n) : cntL c xs = n * xs.length := by
  unfold cntL
  induction xs with
  | nil => simp
  | cons x xs ih => rw [List.map_cons, List.sum_cons, ih, h, List.length_cons, Nat.mul_succ]; omega

/-- A slice of the call's own, from block `base` on, holding flat elements. -/
def Row {α : Type} (E : Enc α) (enc : α → List Value) (t : TypeId) (w : World) (base : Nat) (v : Value) (xs : List α) : Prop :=
  w.ownsRow base t E.size v xs.length (xs.flatMap enc) ∧ ∀ x ∈ xs, ∀ W : World, E.O W (fun _ => False) (enc x) x

theorem flat_get {α : Type} (enc : α → List Value) (s : Nat) : ∀ (xs : List α), (∀ x ∈ xs, (enc x).length = s) → ∀ (i : Nat) (x : α), xs[i]? = some x → ∀ j, j < s → (xs.flatMap enc)[i * s + j]? = (enc x)[j]?
  | [], _, i, x, hx, _, _ => by simp at hx
  | y :: ys, h, 0, x, hx, j, hj => by
    simp at hx; subst hx
    rw [List.flatMap_cons, Nat.zero_mul, Nat.zero_add, List.getElem?_append_left (by rw [h y (by simp)]; exact hj)]
  | y :: ys, h, i + 1, x, hx, j, hj => by
    have hy := h y (by simp)
    rw [List.flatMap_cons, Nat.succ_mul, List.getElem?_append_right (by rw [hy]; omega), hy, show i * s + s + j - s = i * s + j from by omega]
    exact flat_get enc s ys (fun z hz => h z (by simp [hz])) i x (by simpa using hx) j hj

theorem Row.so {α : Type} {E : Enc α} {enc : α → List Value} {t : TypeId} {w0 w : World} {v : Value} {xs : List α} (h : Row E enc t w w0.heap.size v xs) : ∃ A c, v = .slice A xs.length c ∧ So E w (Fr w0 w) A c xs := by
  obtain ⟨h1, h2⟩ := h
  rcases h1.2 with ⟨rfl, hn⟩ | ⟨g, cap, cur, rfl, hg, hh, hnc, hcm, hcs, htk⟩
  · have hx : xs = [] := List.eq_nil_of_length_eq_zero hn
    subst hx
    exact ⟨none, 0, rfl, So.nil (Nat.zero_le _)⟩
  · refine ⟨_, cap, rfl, hnc, hcm, fun hne => ⟨g, 0, t, cur, fun _ _ => False, rfl, ⟨hg, Blk.lt (t := t) (cur := cur) hh⟩, hh, fun _ _ h => h.elim, fun _ _ _ h => h.elim, fun i x hx => ⟨enc x, h2 x (List.mem_of_getElem? hx) w, fun j u hu => ?_⟩⟩⟩
    have hi := (List.getElem?_eq_some_iff.1 hx).1
    have hj := (List.getElem?_eq_some_iff.1 hu).1
    have hl : ∀ y ∈ xs, (enc y).length = E.size := fun y hy => E.len (E.read (h2 y hy w))
    rw [hl x (List.mem_of_getElem? hx)] at hj
    have h3 := flat_get enc E.size xs hl i x hx j hj
    rw [← htk] at h3
    have hlt : i * E.size + j < xs.length * E.size := by
      have : (i + 1) * E.size ≤ xs.length * E.size := Nat.mul_le_mul_right _ (by omega)
      rw [Nat.succ_mul] at this; omega
    rw [List.getElem?_take_of_lt hlt, Array.getElem?_toList] at h3
    rw [Nat.zero_add, h3]; exact hu

theorem Row.nil {α : Type} {E : Enc α} {enc : α → List Value} {t : TypeId} {w : World} {base : Nat} : Row E enc t w base (.slice none 0 0) [] := ⟨World.ownsRow_nil _ _ _ _, fun _ h => by simp at h⟩

/-- `[]T{}`: an empty row of its own. -/
theorem Row.empty {α : Type} {E : Enc α} {enc : α → List Value} {t : TypeId} {w : World} {base : Nat} (hb : base ≤ w.heap.size) : Row E enc t (w.alloc (.cells #[] t)) base (.slice (some ⟨w.heap.size, 0, none⟩) 0 0) [] :=
  ⟨⟨by simp, .inr ⟨_, 0, #[], rfl, hb, Blk.new w t #[], Nat.le_refl _, Nat.zero_le _, by simp, by simp⟩⟩, fun _ h => by simp at h⟩

def encInt (x : Int) : List Value := [.int .i64 x]

theorem Row.keep {α : Type} {E : Enc α} {enc : α → List Value} {t : TypeId} {w w' : World} {base : Nat} {v : Value} {xs : List α} (h : Row E enc t w base v xs) (hk : ∀ b, v.ownBlock = some b → w'.heap[b]? = w.heap[b]?) : Row E enc t w' base v xs := by
  obtain ⟨⟨h1, h2⟩, h3⟩ := h
  refine ⟨⟨h1, ?_⟩, h3⟩
  rcases h2 with h2 | ⟨g, cap, cur, rfl, hg, hh, r⟩
  · exact .inl h2
  · exact .inr ⟨g, cap, cur, rfl, hg, (hk g rfl).trans hh, r⟩

theorem Row.lt {α : Type} {E : Enc α} {enc : α → List Value} {t : TypeId} {w : World} {base : Nat} {v : Value} {xs : List α} (h : Row E enc t w base v xs) : ∀ b, v.ownBlock = some b → base ≤ b ∧ b < w.heap.size := h.1.lt

theorem Row.on {α : Type} {E : Enc α} {enc : α → List Value} {t : TypeId} {w w' : World} {base : Nat} {v : Value} {xs : List α} (h : Row E enc t w base v xs) (hb : Below w.heap.size w w') : Row E enc t w' base v xs := h.keep fun b hv => hb.block b (h.lt b hv).2

theorem Row.snoc {α : Type} {E : Enc α} {enc : α → List Value} {t : TypeId} {w w' : World} {base : Nat} {v v' : Value} {xs : List α} {x : α} (h : Row E enc t w base v xs) (ho : w'.ownsRow base t E.size v' (xs.length + 1) (xs.flatMap enc ++ enc x)) (hx : ∀ W : World, E.O W (fun _ => False) (enc x) x) : Row E enc t w' base v' (xs ++ [x]) := by
  refine ⟨?_, fun y hy => ?_⟩
  · rw [List.length_append, List.length_singleton, List.flatMap_append]
    simpa using ho
  · rcases List.mem_append.1 hy with h1 | h1
    · exact h.2 y h1
    · rw [List.mem_singleton.1 h1]; exact hx

/-- Elements whose cells lead nowhere. -/
structure Flat {α : Type} (E : Enc α) (enc : α → List Value) : Prop where
  r : ∀ {W : World} {S : Nat → Prop} {cs : List Value} {x : α}, E.R W S cs x → cs = enc x ∧ ∀ W' : World, E.O W' (fun _ => False) (enc x) x
  one : ∀ (x : α), ∀ u ∈ enc x, u.oneCell' = true

theorem flat_int : Flat eInt encInt := ⟨fun h => ⟨h.1, fun _ => ⟨rfl, h.2⟩⟩, fun x u hu => by simp [encInt] at hu; subst hu; rfl⟩

theorem flatMap_at {α : Type} (enc : α → List Value) (s : Nat) (hs : 0 < s) : ∀ (ys : List α), (∀ y ∈ ys, (enc y).length = s) → ∀ (j : Nat) (u : Value), (ys.flatMap enc)[j]? = some u → ∃ y, ys[j / s]? = some y ∧ (enc y)[j % s]? = some u
  | [], _, j, u, h => by simp at h
  | y :: ys, hl, j, u, h => by
    have hy := hl y (by simp)
    rw [List.flatMap_cons] at h
    by_cases hj : j < s
    · rw [List.getElem?_append_left (by omega)] at h
      exact ⟨y, by rw [Nat.div_eq_of_lt hj]; rfl, by rw [Nat.mod_eq_of_lt hj]; exact h⟩
    · rw [List.getElem?_append_right (by omega), hy] at h
      obtain ⟨z, h1, h2⟩ := flatMap_at enc s hs ys (fun z hz => hl z (by simp [hz])) (j - s) u h
      refine ⟨z, ?_, ?_⟩
      · rw [Nat.div_eq_sub_div hs (by omega), List.getElem?_cons_succ]; exact h1
      · rw [Nat.mod_eq_sub_mod (by omega)]; exact h2

theorem flatMap_len {α : Type} (enc : α → List Value) (s : Nat) (ys : List α) (h : ∀ y ∈ ys, (enc y).length = s) : (ys.flatMap enc).length = ys.length * s := by
  induction ys with
  | nil => simp
  | cons y ys ih => rw [List.flatMap_cons, List.length_append, ih (fun z hz => h z (by simp [hz])), h y (by simp), List.length_cons, Nat.succ_mul]; omega

theorem Flat.sl {α : Type} {E : Enc α} {enc : α → List Value} (hf : Flat E enc) {w : World} {S : Nat → Prop} {A : Option Addr} {c : Nat} {ys : List α} (h : Sl E w S A c ys) : ∀ y ∈ ys, ∀ W : World, E.O W (fun _ => False) (enc y) y := by
  intro y hy
  obtain ⟨i, hi, rfl⟩ := List.getElem_of_mem hy
  obtain ⟨b, off, es, _, _, h1, _⟩ := h.at hi
  exact (hf.r h1).2

theorem Flat.len {α : Type} {E : Enc α} {enc : α → List Value} {y : α} (h : ∀ W : World, E.O W (fun _ => False) (enc y) y) : (enc y).length = E.size := E.len (E.read (h default))

theorem Flat.cells {α : Type} {E : Enc α} {enc : α → List Value} (hf : Flat E enc) {w : World} {S : Nat → Prop} {b off : Nat} {c : Nat} {ys : List α} (h : Sl E w S (some ⟨b, off, none⟩) c ys) : ∀ j u, (ys.flatMap enc)[j]? = some u → w.cell? ((⟨b, off, none⟩ : Addr).add j) = some u := by
  intro j u hu
  obtain ⟨y, h1, h2⟩ := flatMap_at enc E.size E.pos ys (fun y hy => Flat.len (hf.sl h y hy)) j u hu
  have hi := (List.getElem?_eq_some_iff.1 h1).1
  obtain ⟨b', off', es, hA, _, h3, h4⟩ := h.at hi
  simp only [Option.some.injEq, Addr.mk.injEq, and_true] at hA
  obtain ⟨rfl, rfl⟩ := hA
  have hy : ys[j / E.size] = y := (List.getElem?_eq_some_iff.1 h1).2
  rw [hy] at h3
  rw [(hf.r h3).1] at h4
  have := h4 (j % E.size) u h2
  rw [show off + j / E.size * E.size + j % E.size = off + j from by rw [Nat.add_assoc, Nat.div_add_mod']] at this
  rw [Addr.add_lit]; exact this

/-- The facts on a type of elements that an append wants. -/
structure Elem {α : Type} (P : Program) (E : Enc α) (t e : TypeId) (bytes : Nat) : Prop where
  under : P.underlying t = some (.slice e)
  info : ∃ i z, P.info? e = some i ∧ i.zero = some z ∧ i.size = E.size ∧ i.bytes = bytes ∧ z.cells.size = E.size

theorem Row.all {α : Type} {E : Enc α} {enc : α → List Value} {t : TypeId} {w : World} {base : Nat} {v : Value} {xs ys : List α} (h : Row E enc t w base v xs) {w' : World} {v' : Value} (ho : w'.ownsRow base t E.size v' (xs.length + ys.length) (xs.flatMap enc ++ ys.flatMap enc)) (hy : ∀ y ∈ ys, ∀ W : World, E.O W (fun _ => False) (enc y) y) : Row E enc t w' base v' (xs ++ ys) := by
  refine ⟨by rw [List.length_append, List.flatMap_append]; exact ho, fun y hm => ?_⟩
  rcases List.mem_append.1 hm with h1 | h1
  · exact h.2 y h1
  · exact hy y h1

theorem Row.shape {α : Type} {E : Enc α} {enc : α → List Value} {t : TypeId} {w : World} {base : Nat} {v : Value} {xs : List α} (h : Row E enc t w base v xs) : ∃ A c, v = .slice A xs.length c ∧ xs.length ≤ c ∧ c ≤ maxLen := by
  rcases h.1.2 with ⟨rfl, hn⟩ | ⟨g, cap, cur, rfl, hg, hh, hnc, hcm, _⟩
  · exact ⟨none, 0, by rw [hn], by omega, Nat.zero_le _⟩
  · exact ⟨_, cap, rfl, hnc, hcm⟩

theorem run_append_row {α : Type} {P : Program} {E : Enc α} {enc : α → List Value} (hf : Flat E enc) {t e : TypeId} {bytes : Nat} (he : Elem P E t e bytes) (ty : TypeId) {w : World} {base : Nat} {v : Value} {xs ys : List α} (hR : Row E enc e w base v xs)
    {S : Nat → Prop} {A : Option Addr} {c : Nat} (hS : Sl E w S A c ys) (h63 : xs.length + ys.length ≤ maxLen) (hbytes : (xs.length + ys.length) * bytes ≤ 140737488355328) (hbase : base ≤ w.heap.size) :
    ∃ v' w', (Builtin.append_ #[t, t] ty #[v, .slice A ys.length c]).run P w = .ok v' w' ∧ Row E enc e w' base v' (xs ++ ys) ∧ w.grownBy w' v.ownBlock ∧ (v'.ownBlock = v.ownBlock ∨ v'.ownBlock = some w.heap.size) := by
  obtain ⟨i, z, hi, hz0, hz1, hz2, hz3⟩ := he.info
  have hlen : ∀ y ∈ ys, (enc y).length = E.size := fun y hy => Flat.len (hf.sl hS y hy)
  cases A with
  | none =>
    have hy : ys = [] := Classical.byContradiction fun hn => by
      obtain ⟨b, off, hA, _⟩ := hS.2.2 hn
      cases hA
    subst hy
    obtain ⟨A', c', rfl, hle, _⟩ := hR.shape
    refine ⟨_, w, run_append_nothing w t t ty e i he.under hi A' xs.length c' hle (.slice none 0 c) (Src.ofNil w he.under c), by rw [List.append_nil]; exact hR, World.grownBy.refl _ _, .inl rfl⟩
  | some ad =>
    obtain ⟨b, off, sp⟩ := ad
    by_cases hn : ys = []
    · subst hn
      obtain ⟨v', w', h1, h2, h3, h4, h5⟩ := run_append_own_at (P := P) w base t ty e i z E.size bytes he.under hi hz0 hz1 hz2 hz3 E.pos v xs.length (xs.flatMap enc) hR.1 ⟨b, off, sp⟩ 0 c [] (by simp) (fun j u h => by simp at h) (fun u h => by simp at h) h63 hbytes hbase
      exact ⟨v', w', h1, hR.all h2 (fun y hy => by simp at hy), h3, h5⟩
    · obtain ⟨b', off', hA, _⟩ := hS.2.2 hn
      simp only [Option.some.injEq, Addr.mk.injEq] at hA
      obtain ⟨rfl, rfl, rfl⟩ := hA
      obtain ⟨v', w', h1, h2, h3, h4, h5⟩ := run_append_own_at (P := P) w base t ty e i z E.size bytes he.under hi hz0 hz1 hz2 hz3 E.pos v xs.length (xs.flatMap enc) hR.1 ⟨b, off, none⟩ ys.length c (ys.flatMap enc) (flatMap_len enc E.size ys hlen) (hf.cells hS)
        (fun u hu => by obtain ⟨y, _, h⟩ := List.mem_flatMap.1 hu; exact hf.one y u h) h63 hbytes hbase
      exact ⟨v', w', h1, hR.all h2 (hf.sl hS), h3, h5⟩

theorem wpList_append_row {α : Type} {P : Program} {E : Enc α} {enc : α → List Value} (hf : Flat E enc) {t e : TypeId} {bytes : Nat} (he : Elem P E t e bytes) {ops : Array Oper} {rest : List Oper} {o : Oper} {a : Act} {Q : Exit → Act → World → Prop} {w : World} (hgd : o.guard = none) (s x : Operand)
    (ho : o.op = .call { callee := .builtin .append, args := #[s, x], argTypes := #[t, t] }) {base : Nat} {v : Value} {xs ys : List α} (hs : a.eval s = v) (hR : Row E enc e w base v xs)
    {S : Nat → Prop} {A : Option Addr} {c : Nat} (hx : a.eval x = .slice A ys.length c) (hS : Sl E w S A c ys) (h63 : xs.length + ys.length ≤ maxLen) (hbytes : (xs.length + ys.length) * bytes ≤ 140737488355328) (hbase : base ≤ w.heap.size)
    (h : ∀ v' w', Row E enc e w' base v' (xs ++ ys) → w.grownBy w' v.ownBlock → (v'.ownBlock = v.ownBlock ∨ v'.ownBlock = some w.heap.size) → wpList P ops Q rest (a.put o.dst v') w') :
    wpList P ops Q (o :: rest) a w := by
  refine wpList_plain hgd fun K hK => ?_
  obtain ⟨v', w', hr, h2, h3, h4⟩ := run_append_row hf he o.type hR hS h63 hbytes hbase
  unfold Oper.wp execOp
  simp only [ho, resolve, invoke, builtin, Sem.run_bind, Sem.run_pure, Result.andThen_ok, List.map_toArray, List.map_cons, List.map_nil, hs, hx, hr]
  exact hK _ _ (h v' w' h2 h3 h4)

theorem So.take {α : Type} {E : Enc α} {w : World} {S : Nat → Prop} {A : Option Addr} {c : Nat} {xs : List α} (h : So E w S A c xs) (k : Nat) : So E w S A c (xs.take k) :=
  ⟨by have := h.1; rw [List.length_take]; omega, h.2.1, fun hn => by
    obtain ⟨b, off, t, cur, T, hA, hb, hB, hT, hd, hc⟩ := h.2.2 (by rintro rfl; simp at hn)
    refine ⟨b, off, t, cur, T, hA, hb, hB, hT, hd, fun i x hx => hc i x ?_⟩
    rw [List.getElem?_take] at hx
    split at hx
    · exact hx
    · cases hx⟩

theorem Sl.take {α : Type} {E : Enc α} {w : World} {S : Nat → Prop} {A : Option Addr} {c : Nat} {xs : List α} (h : Sl E w S A c xs) (k : Nat) : Sl E w S A c (xs.take k) :=
  ⟨by have := h.1; rw [List.length_take]; omega, h.2.1, fun hn => by
    obtain ⟨b, off, hA, hb, hc⟩ := h.2.2 (by rintro rfl; simp at hn)
    refine ⟨b, off, hA, hb, fun i x hx => hc i x ?_⟩
    rw [List.getElem?_take] at hx
    split at hx
    · exact hx
    · cases hx⟩

/-- One number of an owned slice rewritten. -/
theorem So.setI {w : World} {S : Nat → Prop} {b off c : Nat} {xs : List Int} (h : So eInt w S (some ⟨b, off, none⟩) c xs) {k : Nat} (hk : k < xs.length) {y : Int} (hy : I64 y) : So eInt (w.setCell ⟨b, off + k, none⟩ (.int .i64 y)) S (some ⟨b, off, none⟩) c (xs.set k y) := by
  obtain ⟨b', off', t, cur, T, es, hA, hb, hB, hT, hO, hcells, hre⟩ := h.at hk
  simp only [Option.some.injEq, Addr.mk.injEq, and_true] at hA
  obtain ⟨rfl, rfl⟩ := hA
  refine hre _ [.int .i64 y] y ⟨rfl, hy⟩ ?_ (fun m hm hne _ => Below.heap_setCell _ _ _ _ hne)
  rw [show off + k * eInt.size = off + k from by show off + k * 1 = _; omega]
  exact hB.set _ _

/-- What an owned slice of numbers holds, and that it may be written. -/
theorem So.getI {w : World} {S : Nat → Prop} {A : Option Addr} {c : Nat} {xs : List Int} (h : So eInt w S A c xs) {k : Nat} (hk : k < xs.length) : ∃ b off, A = some ⟨b, off, none⟩ ∧ S b ∧ I64 xs[k] ∧ w.cell? ⟨b, off + k, none⟩ = some (.int .i64 xs[k]) ∧ w.frozen? ⟨b, off + k, none⟩ = false := by
  obtain ⟨b, off, t, cur, T, es, rfl, hb, hB, hT, hO, hcells, _⟩ := h.at hk
  obtain ⟨rfl, hi⟩ := hO
  refine ⟨b, off, rfl, hb, hi, ?_, hB.frozen _⟩
  have := hcells 0 _ rfl
  rw [show off + k * eInt.size + 0 = off + k from by show off + k * 1 + 0 = _; omega] at this
  rw [hB.cell]; exact this

def evp (L : List (Nat × Value)) : List (Nat × Operand) → Option (List (Nat × Value))
  | [] => some []
  | (i, x) :: xs => match ev L x, evp L xs with
    | some v, some vs => some ((i, v) :: vs)
    | _, _ => none

theorem evp_map {n : Nat} {L : List (Nat × Value)} {a : Act} (hE : Env n L a) : ∀ (xs : List (Nat × Operand)) (vs : List (Nat × Value)), evp L xs = some vs → (xs.map fun p => (p.1, a.eval p.2)) = vs
  | [], vs, h => by simp [evp] at h; subst h; rfl
  | (i, x) :: xs, vs, h => by
    simp only [evp] at h
    cases h1 : ev L x with
    | none => simp [h1] at h
    | some v =>
      cases h2 : evp L xs with
      | none => simp [h1, h2] at h
      | some us =>
        simp [h1, h2] at h
        subst h
        rw [List.map_cons, hE.ev h1, evp_map hE xs us h2]

def setP (cs : List Value) : List (Nat × Value) → List Value
  | [] => cs
  | p :: r => setP (cs.set p.1 p.2) r

theorem one_cells {v : Value} (h : v.oneCell' = true) : v.cells = #[v] := by cases v <;> first | rfl | (simp [Value.oneCell'] at h)

theorem fill_one {pl : Array (Nat × Nat)} {m : Nat} (hp : ∀ i, i < m → pl[i]? = some (i, 1)) : ∀ (vs : List (Nat × Value)) (cs : List Value), cs.length = m → (∀ p ∈ vs, p.1 < m ∧ p.2.oneCell' = true) → Instr.fill (fun i => pl[i]?) cs.toArray vs = some (setP cs vs).toArray
  | [], cs, _, _ => rfl
  | p :: r, cs, hl, h => by
    obtain ⟨i, v⟩ := p
    have hi := h (i, v) (by simp)
    have ih := fill_one hp r (cs.set i v) (by simpa using hl) (fun q hq => h q (by simp [hq]))
    have h2 : i + 1 ≤ cs.length := by have := hi.1; omega
    have h3 : ¬ (cs.toArray.size < i + 1) := by simp; omega
    simp only [Instr.fill, hp i hi.1, one_cells hi.2]
    simp [setP, ← ih, h3, h2]
    intro h4; omega

/-- What is known of a struct type whose fields take a cell each. -/
structure TB (P : Program) (t : TypeId) (zs : List Value) : Prop where
  tv : TV P t true zs
  under : ∃ fs pl, P.underlying t = some (.struct fs) ∧ (∀ w, (fs.mapM fun (f : Field) => (do pure (f.offset, ← sizeOf f.type) : Sem (Nat × Nat))).run P w = .ok pl w) ∧ ∀ i, i < zs.length → pl[i]? = some (i, 1)

theorem x_build {P : Program} {S : World → Prop} {L : List (Nat × Value)} {d : Option Tmp} {t : TypeId} {ps : List (Nat × Operand)} {vs : List (Nat × Value)} {zs : List Value} {ty : TypeId} {pos : String} {af : Array Edge} {g : Option (Nat × Bool)} (ht : TB P t zs) (he : evp L ps = some vs) (hv : ∀ p ∈ vs, p.1 < zs.length ∧ p.2.oneCell' = true) : XS P S L ⟨d, .build t ps.toArray, ty, pos, af, g⟩ (.agg (setP zs vs).toArray) := fun _ a w hE _ => by
  obtain ⟨fs, pl, h1, h2, h3⟩ := ht.under
  obtain ⟨i, z, e1, e2, e3, e4⟩ := ht.tv.info
  have hf := fill_one h3 vs zs rfl hv
  have hm := evp_map hE ps vs he
  have hz : (zeroValue t).run P w = .ok z w := by simp [zeroValue, typeInfo, e1, e2]
  simp only [execOp, Instr.build, List.map_toArray, hm, Sem.run_bind, hz, Result.andThen_ok, run_underlying h1, h2 w, e4]
  simp [hf]

theorem foldl_setAll (off : Nat) : ∀ (vs : List Value) (k : Nat) (cs : Array Value), (vs.zipIdx k).foldl (fun cs (p : Value × Nat) => cs.setIfInBounds (off + p.2) p.1) cs = setAll cs (off + k) vs
  | [], _, _ => rfl
  | v :: vs, k, cs => by
    rw [List.zipIdx_cons, List.foldl_cons, foldl_setAll off vs (k + 1)]
    rfl

theorem setAll_split (pre mid post vs : List Value) (h : mid.length = vs.length) : setAll (pre ++ mid ++ post).toArray pre.length vs = (pre ++ vs ++ post).toArray := by
  apply Array.ext_getElem?
  intro i
  rw [get_setAll _ _ _ _ (by simp; omega)]
  by_cases h1 : pre.length ≤ i ∧ i < pre.length + vs.length
  · rw [if_pos h1]
    simp only [List.getElem?_toArray]
    rw [List.append_assoc, List.getElem?_append_right h1.1, List.getElem?_append_left (by omega)]
  · rw [if_neg h1]
    simp only [List.getElem?_toArray, List.append_assoc]
    by_cases h2 : i < pre.length
    · rw [List.getElem?_append_left h2, List.getElem?_append_left h2]
    · rw [List.getElem?_append_right (by omega), List.getElem?_append_right (by omega), List.getElem?_append_right (by omega), List.getElem?_append_right (by omega), h]

def numb (j : Nat) : List Value → List (Nat × Value)
  | [] => []
  | v :: vs => (j, v) :: numb (j + 1) vs

theorem fill_all (sz : Nat) : ∀ (vs : List Value) (j : Nat) (pre post : List Value), pre.length = j * sz → post.length = vs.length * sz → (∀ v ∈ vs, v.cells.size = sz) → Instr.fill (fun i => some (i * sz, sz)) (pre ++ post).toArray (numb j vs) = some (pre ++ (vs.map fun v => v.cells.toList).flatten).toArray
  | [], j, pre, post, _, h2, _ => by
    have : post = [] := List.eq_nil_of_length_eq_zero (by simpa using h2)
    subst this; simp [numb, Instr.fill]
  | v :: vs, j, pre, post, h1, h2, h3 => by
    have hv := h3 v (by simp)
    rw [List.length_cons, Nat.succ_mul] at h2
    have hsp : post = post.take sz ++ post.drop sz := (List.take_append_drop sz post).symm
    have hl : (post.take sz).length = v.cells.toList.length := by rw [List.length_take]; simp [hv]; omega
    have hset := setAll_split pre (post.take sz) (post.drop sz) v.cells.toList hl
    have ih := fill_all sz vs (j + 1) (pre ++ v.cells.toList) (post.drop sz) (by simp [h1, hv, Nat.succ_mul]) (by rw [List.length_drop]; omega) (fun u hu => h3 u (by simp [hu]))
    have hfold : v.cells.zipIdx.foldl (fun cs (p : Value × Nat) => cs.setIfInBounds (j * sz + p.2) p.1) (pre ++ post).toArray = (pre ++ v.cells.toList ++ post.drop sz).toArray := by
      rw [← Array.foldl_toList, Array.toList_zipIdx, foldl_setAll, Nat.add_zero, ← h1, ← hset, List.append_assoc, ← hsp]
    have hle : ¬ ((pre ++ post).toArray.size < j * sz + sz) := by simp; omega
    have hc : (v.cells.size ≠ sz || decide (j * sz + v.cells.size > (pre ++ post).toArray.size)) = false := by
      rw [hv]; simp; omega
    simp only [numb, Instr.fill]
    rw [if_neg (by rw [hc]; simp)]
    rw [show (v.cells.zipIdx.foldl (fun cs x => match x with | (c, j_1) => cs.setIfInBounds (j * sz + j_1) c) (pre ++ post).toArray) = (pre ++ v.cells.toList ++ post.drop sz).toArray from hfold, ih]
    simp

/-- A slice literal, all of its elements given. -/
theorem run_lit {P : Program} {n m : Nat} {a : Act} {L : List (Nat × Value)} {w : World} {t e : TypeId} {sz by_ : Nat} {ps : List (Nat × Operand)} {vs : List Value} {cs : List Value} {d : Option Tmp} {ty : TypeId} {pos : String} {af : Array Edge} {g : Option (Nat × Bool)} (hT : TSl P t e sz by_) (hE : Env n L a) (he : evp L ps = some (numb 0 vs)) (hm : vs.length = m) (hv : ∀ v ∈ vs, v.cells.size = sz) (hcs : (vs.map fun v => v.cells.toList).flatten = cs) (hb : m * sz ≤ 16777216) :
    (execOp a.eval ⟨d, .buildSlice t m ps.toArray, ty, pos, af, g⟩).run P w = .ok (.value (.slice (some ⟨w.heap.size, 0, none⟩) m m)) (w.alloc (.cells cs.toArray e)) := by
  obtain ⟨i, z, e1, e2, e3, e4, e5⟩ := hT.info
  subst hm hcs
  have hE' := evp_map hE ps _ he
  have hb' : ¬ (vs.length * i.size > 2 ^ 24) := by rw [e3]; omega
  have key : ∀ zero : Array Value, Instr.fill (fun i_1 => some (i_1 * i.size, i.size)) ((Array.range (vs.length * i.size)).map (zero[· % zero.size]!)) (numb 0 vs) = some (vs.map fun v => v.cells.toList).flatten.toArray := by
    intro zero
    have := fill_all sz vs 0 [] ((Array.range (vs.length * i.size)).map (zero[· % zero.size]!)).toList (by simp) (by simp [e3]) hv
    simp only [List.nil_append, Array.toArray_toList] at this
    rw [e3] at this ⊢; exact this
  simp only [execOp, Instr.buildSlice, List.map_toArray, hE', Sem.run_bind, run_underlying hT.under, Result.andThen_ok, sizeOf, typeInfo, run_program, e1, Sem.run_pure, hb', if_false]
  by_cases h0 : vs.length * i.size = 0
  · simp [h0, newRow] at key ⊢
    have := key #[]
    simp at this
    simp [this]
  · simp [h0, zeroValue, typeInfo, e1, e2, newRow, key]

theorem lkI {t : Nat} {L : List (Nat × Value)} {q : IntKind} {x y : Int} (h : lk t L = some (.int q x)) (e : x = y) : lk t L = some (.int q y) := e ▸ h

theorem Held.to {M : Nat → Prop} {w0 : World} {rs rs' : List Res} {w : World} (h : Held M w0 rs w) (e : rs = rs') : Held M w0 rs' w := e ▸ h

theorem Held.flatO {M : Nat → Prop} {w0 : World} {rs : List Res} {w : World} (h : Held M w0 rs w) {α : Type} {E : Enc α} {cs : List Value} {x : α} (ho : ∀ W, E.O W Nob cs x) : Held M w0 (rO E Nob cs x :: rs) w := h.new (Below.refl _ _) (rO E Nob cs x) (ho w) fun _ h => h.elim

theorem oPrN {α β : Type} {E : Enc α} {F : Enc β} {w : World} {c1 c2 : List Value} {x : α} {y : β} (h1 : E.O w Nob c1 x) (h2 : F.O w Nob c2 y) : (ePr E F).O w Nob (c1 ++ c2) (x, y) := ⟨c1, c2, Nob, Nob, rfl, fun b hb => hb.elim, fun b hb => hb, h1, h2⟩

theorem c_ownI {M : Nat → Prop} {w0 : World} {rs : List Res} {S : Nat → Prop} {b off c k : Nat} {xs : List Int} (i : Nat) (hi : rs[i]? = some (rSo eInt S (some ⟨b, off, none⟩) c xs)) (hk : k < xs.length) : ∀ w, Held M w0 rs w → w.cell? ⟨b, off + k * 1, none⟩ = some (.int .i64 xs[k]) := fun w h => by
  obtain ⟨b', off', es, hA, _, hR, hc⟩ := (h.sl hi).at1 rfl hk
  simp only [Option.some.injEq, Addr.mk.injEq, and_true] at hA
  obtain ⟨rfl, rfl⟩ := hA
  obtain ⟨rfl, _⟩ := hR
  rw [Nat.mul_one]; exact hc _ rfl

theorem i_ownI {M : Nat → Prop} {w0 w : World} {rs : List Res} {S : Nat → Prop} {A : Option Addr} {c k : Nat} {xs : List Int} (h : Held M w0 rs w) (i : Nat) (hi : rs[i]? = some (rSo eInt S A c xs)) (hk : k < xs.length) : I64 xs[k] := by
  obtain ⟨b', off', es, hA, _, hR, hc⟩ := (h.sl hi).at1 rfl hk
  exact hR.2

/-- A literal slice reads as the list of what its elements read as. -/
theorem Held.slLit {M : Nat → Prop} {w0 w : World} {rs : List Res} {α : Type} {E : Enc α} {g : Nat} {t : TypeId} {css : List (List Value)} {xs : List α} (h : Held M w0 rs w) {i : Nat} (hi : rs[i]? = some (rBlk g t css.flatten)) (hl : css.length = xs.length) (hm : xs.length ≤ maxLen) (hR : ∀ (j : Nat) (x : α), xs[j]? = some x → ∃ es, css[j]? = some es ∧ E.R w (Old w) es x) : Sl E w (Old w) (some ⟨g, 0, none⟩) xs.length xs := by
  have hB : Blk w g t css.flatten.toArray := h.get hi
  refine ⟨Nat.le_refl _, hm, fun _ => ⟨g, 0, rfl, Blk.lt hB, fun j x hx => ?_⟩⟩
  obtain ⟨es, h1, h2⟩ := hR j x hx
  refine ⟨es, h2, fun q v hv => ?_⟩
  have hsz : ∀ es ∈ css, es.length = E.size := fun es hes => by
    obtain ⟨m, hm', rfl⟩ := List.getElem_of_mem hes
    obtain ⟨es', h3, h4⟩ := hR m xs[m] (List.getElem?_eq_getElem (by omega))
    rw [List.getElem?_eq_getElem hm'] at h3
    simp at h3; rw [h3]; exact E.len h4
  have hq : q < E.size := by
    have := (List.getElem?_eq_some_iff.1 hv).1
    rw [hsz es (List.mem_of_getElem? h1)] at this; exact this
  have := flatten_at E.size css hsz j es h1 q hq
  rw [Nat.zero_add, hB.cell, List.getElem?_toArray, this]; exact hv

/-- A store into an owned slice of numbers. -/
theorem st_storeI {P : Program} {ops : Array Oper} {Q : Exit → Act → World → Prop} {a : Act} {w : World} {K : Act → World → Prop} {n : Nat} {L : List (Nat × Value)} {M : Nat → Prop} {w0 : World} {rs : List Res} {t : TypeId} {z0 : Value} {x y : Operand} {S : Nat → Prop} {b off c k : Nat} {xs : List Int} {m : Int} {ty : TypeId} {pos : String} {af : Array Edge} {gd : Option (Nat × Bool)} (i : Nat) (hE : Env n L a) (hH : Held M w0 rs w) (ht : TV P t false [z0]) (hx : ev L x = some (.pointer (some ⟨b, off + k * 1, none⟩))) (hy : ev L y = some (.int .i64 m)) (hi : rs[i]? = some (rSo eInt S (some ⟨b, off, none⟩) c xs)) (hk : k < xs.length) (hm : I64 m) (hw : Region.wanted ⟨none, .store t x y, ty, pos, af, gd⟩ (yielded ops a.tmps) = true)
    (kk : ∀ w', Held M w0 (rs.set i (rSo eInt S (some ⟨b, off, none⟩) c (xs.set k m))) w' → K a w') : Stp P ops Q ⟨none, .store t x y, ty, pos, af, gd⟩ a w K := by
  have hso := so_of_o (hH.get hi)
  obtain ⟨b', off', hA, hb, _, hc, hf⟩ := hso.getI hk
  simp only [Option.some.injEq, Addr.mk.injEq, and_true] at hA
  obtain ⟨rfl, rfl⟩ := hA
  have h2 := hso.setI hk hm
  have hlen : (xs.set k m).length = xs.length := List.length_set
  have h3 : Held M w0 (rs.set i (rSo eInt S (some ⟨b, off, none⟩) c (xs.set k m))) (w.setCell ⟨b, off + k, none⟩ (.int .i64 m)) := hH.mut hi ((Chg.refl _ _).set (by exact hb) _) (rSo eInt S (some ⟨b, off, none⟩) c (xs.set k m)) (oSl h2) fun b hb => .inl hb
  refine st_skip hw ?_ rfl (kk _ h3)
  obtain ⟨ii, z, e1, _, e3, _⟩ := ht.info
  rw [Nat.mul_one] at hx
  simp only [execOp, hE.ev hx, hE.ev hy, Instr.storeAt, Instr.sureAddr, storeVar, sizeOf, typeInfo, Sem.run_bind, Sem.run_pure, Result.andThen_ok, run_program, e1]
  have e3' : ii.size = 1 := e3
  have hs : (Go.store ⟨b, off + k, none⟩ (.int .i64 m)).run P w = .ok () (w.setCell ⟨b, off + k, none⟩ (.int .i64 m)) := by simp [Go.store, Sem.run, hc, hf]
  simp [Value.cells, e3', storeCells, add_none, hs]

theorem tv_parts {P : Program} {t : TypeId} {z : Value} {n : Nat} (h : (P.info? t).map (fun i => (i.zero, i.size)) = some (some z, n)) : ∃ i, P.info? t = some i ∧ i.zero = some z ∧ i.size = n := by
  cases hi : P.info? t with
  | none => rw [hi] at h; cases h
  | some i =>
    rw [hi] at h
    simp only [Option.map_some, Option.some.injEq, Prod.mk.injEq] at h
    exact ⟨i, rfl, h.1, h.2⟩

theorem ts_parts {P : Program} {t : TypeId} {z : Value} {n b : Nat} (h : (P.info? t).map (fun i => (i.zero, i.size, i.bytes)) = some (some z, n, b)) : ∃ i, P.info? t = some i ∧ i.zero = some z ∧ i.size = n ∧ i.bytes = b := by
  cases hi : P.info? t with
  | none => rw [hi] at h; cases h
  | some i =>
    rw [hi] at h
    simp only [Option.map_some, Option.some.injEq, Prod.mk.injEq] at h
    exact ⟨i, rfl, h.1, h.2.1, h.2.2⟩

theorem so_rep {α : Type} {E : Enc α} {w : World} {g : Nat} {t : TypeId} {n : Nat} {v : Value} {x : α} (h1 : E.size = 1) (hO : ∀ W, E.O W Nob [v] x) (hB : Blk w g t (List.replicate n v).toArray) (hm : n ≤ maxLen) : So E w (fun b => b = g) (some ⟨g, 0, none⟩) n (List.replicate n x) :=
  ⟨by simp, hm, fun _ => ⟨g, 0, t, _, fun _ _ => False, rfl, rfl, hB, fun _ _ h => h.elim, fun _ _ _ h => h.elim, fun i y hy => by
    have hi := (List.getElem?_eq_some_iff.1 hy).1
    rw [List.length_replicate] at hi
    rw [List.getElem?_replicate_of_lt hi] at hy
    simp at hy; subst hy
    refine ⟨[v], E.omore (hO w) fun _ h => h.elim, fun j u hu => ?_⟩
    rcases j with _ | j
    · simp at hu; subst hu
      rw [h1]; simp [hi]
    · simp at hu⟩⟩

/-- make, of flat elements of one cell. -/
theorem st_make {P : Program} {ops : Array Oper} {Q : Exit → Act → World → Prop} {a : Act} {w : World} {K : Act → World → Prop} {n d : Nat} {L : List (Nat × Value)} {M : Nat → Prop} {w0 : World} {rs : List Res} {α : Type} {E : Enc α} {t e : TypeId} {by_ : Nat} {v : Value} {x : α} {y1 y2 : Operand} {k : Nat} {m m2 : Int} {ty : TypeId} {pos : String} {af : Array Edge} {gd : Option (Nat × Bool)} (hE : Env n L a) (hH : Held M w0 rs w) (ht : TSl P t e 1 by_) (hv : TV P e false [v]) (h1 : E.size = 1) (hO : ∀ W, E.O W Nob [v] x) (hy1 : ev L y1 = some (.int .i64 m)) (hy2 : ev L y2 = some (.int .i64 m2)) (hm : m = (k : Int)) (hm2 : m2 = (k : Int)) (hk : k * by_ ≤ 140737488355328) (hk1 : k ≤ 1000000000000) (hw : Region.wanted ⟨some d, .makeSlice t y1 y2, ty, pos, af, gd⟩ (yielded ops a.tmps) = true) (hn : Nat.blt d n = true)
    (kk : ∀ q a' w', Env n ((d, .slice (some ⟨q, 0, none⟩) (List.replicate k x).length k) :: L) a' → Held M w0 (rSo E (fun b => b = q) (some ⟨q, 0, none⟩) k (List.replicate k x) :: rs) w' → K a' w') : Stp P ops Q ⟨some d, .makeSlice t y1 y2, ty, pos, af, gd⟩ a w K := by
  obtain ⟨i, z, e1, e2, e3, e4, e5⟩ := ht.info
  obtain ⟨i', z', f1, f2, f3, f4⟩ := hv.info
  have hii : i' = i := by rw [e1] at f1; exact (Option.some.inj f1).symm
  subst hii
  have hzz : z' = z := by rw [e2] at f2; exact (Option.some.inj f2).symm
  subst hzz
  subst hm hm2
  have hmade : madeCells #[v] k = (List.replicate k v).toArray := by
    apply Array.ext
    · simp [madeCells]
    · intro j h1 h2
      have : j % 1 = 0 := Nat.mod_one j
      simp [madeCells, this]
  have hb1 : (i'.bytes : Int) * (k : Int) ≤ 281474976710656 := by
    have h : ((i'.bytes * k : Nat) : Int) ≤ 281474976710656 := by rw [e4, Nat.mul_comm]; omega
    rwa [Int.natCast_mul] at h
  have hr := run_make (P := P) w t e i' z' ht.under e1 e2 .i64 .i64 k k (by omega) (Int.le_refl _) hb1 (by omega)
  simp only [Int.toNat_natCast, e3, Nat.mul_one, f4] at hr
  have hrun : (execOp a.eval ⟨some d, .makeSlice t y1 y2, ty, pos, af, gd⟩).run P w = .ok (.value (.slice (some ⟨w.heap.size, 0, none⟩) k k)) (w.alloc (.cells (List.replicate k v).toArray e)) := by
    rw [← hmade]
    simp only [execOp, hE.ev hy1, hE.ev hy2, Sem.run_bind]
    rw [show ([v].toArray) = #[v] from rfl] at hr
    rw [hr]; rfl
  refine st_val hE hw hrun rfl hn fun a' hE' => ?_
  have hB := hH.alloc e (List.replicate k v)
  refine kk w.heap.size a' _ (by rw [List.length_replicate]; exact hE') ?_
  refine hB.turn _ (fun hb => ?_) fun _ hb => hb
  exact oSl (so_rep h1 hO hb (by unfold maxLen; omega))

theorem Env.castI {n t : Nat} {L : List (Nat × Value)} {a : Act} {q : IntKind} {x y : Int} (h : Env n L a) (hl : lk t L = some (.int q x)) (e : x = y) : Env n ((t, .int q y) :: L) a :=
  h.sub' fun s v hv => by
    simp only [lk] at hv
    by_cases hs : Nat.beq s t = true
    · rw [hs] at hv
      have hs' := Nat.eq_of_beq_eq_true hs
      subst hs' e
      simp at hv
      rw [hl, hv]
    · have hs' : Nat.beq s t = false := Bool.eq_false_iff.2 hs
      rw [hs'] at hv; exact hv

/-- A captured variable's cell, as a closure sees it. -/
theorem Held.capB {M : Nat → Prop} {w0 : World} {rs : List Res} {w W : World} {g : Nat} {t : TypeId} {cs : List Value} (h : Held M w0 rs w) (i : Nat) (hi : rs[i]? = some (rBlk g t cs)) (hb : Below w.heap.size w W) : ∀ j v, cs[j]? = some v → W.cell? ⟨g, 0 + j, none⟩ = some v := fun j v hv => by
  have hlt := (h.rng _ (List.mem_of_getElem? hi) g rfl).2
  rw [hb.cell (p := ⟨g, 0 + j, none⟩) hlt]
  exact c_blkN i hi w h j v hv

theorem Env.castS {n t m m' c : Nat} {A : Option Addr} {L : List (Nat × Value)} {a : Act} (h : Env n L a) (hl : lk t L = some (.slice A m c)) (e : m = m') : Env n ((t, .slice A m' c) :: L) a :=
  h.sub' fun s v hv => by
    simp only [lk] at hv
    by_cases hs : Nat.beq s t = true
    · rw [hs] at hv
      have hs' := Nat.eq_of_beq_eq_true hs
      subst hs' e
      simp at hv
      rw [hl, hv]
    · have hs' : Nat.beq s t = false := Bool.eq_false_iff.2 hs
      rw [hs'] at hv; exact hv

/-- What was there, outside M. -/
def Out (M : Nat → Prop) (w : World) (b : Nat) : Prop := b < w.heap.size ∧ ¬ M b

/-- The blocks of some parts. -/
def Foot (xs : List Res) (b : Nat) : Prop := ∃ r ∈ xs, r.S b

theorem Held.startM {w : World} {α : Type} {E : Enc α} {S : Nat → Prop} {cs : List Value} {x : α} (ho : E.O w S cs x) (hS : ∀ b, S b → b < w.heap.size) : Held S w [rO E S cs x] w :=
  ⟨Chg.refl _ _, (fun r hr => by simp at hr; subst hr; exact ho), (fun r hr b hb => by simp at hr; subst hr; exact ⟨.inl hb, hS b hb⟩), by simp⟩

theorem Held.focus {M0 : Nat → Prop} {w0 : World} {xs rs : List Res} {w : World} (h : Held M0 w0 (xs ++ rs) w) : Held (Foot xs) w xs w :=
  ⟨Chg.refl _ _, fun r hr => h.ok r (by simp [hr]), fun r hr b hb => ⟨.inl ⟨r, hr, hb⟩, (h.rng r (by simp [hr]) b hb).2⟩, (List.pairwise_append.1 h.sep).1⟩

theorem Held.back {M0 : Nat → Prop} {w0 : World} {xs ys rs : List Res} {w w' : World} (h : Held M0 w0 (xs ++ rs) w) (h' : Held (Foot xs) w ys w') : Held M0 w0 (ys ++ rs) w' where
  chg := by
    refine ⟨h'.chg.os.trans h.chg.os, h'.chg.tape.trans h.chg.tape, h'.chg.output.trans h.chg.output, Nat.le_trans h.chg.size h'.chg.size, fun k hk hM => ?_⟩
    refine (h'.chg.block k (Nat.lt_of_lt_of_le hk h.chg.size) ?_).trans (h.chg.block k hk hM)
    rintro ⟨r, hr, hb⟩
    rcases (h.rng r (by simp [hr]) k hb).1 with q | q
    · exact hM q
    · omega
  ok := by
    intro r hr
    rcases List.mem_append.1 hr with hr | hr
    · exact h'.ok r hr
    · refine r.loc w w' (fun b hb => h'.chg.block b (h.rng r (by simp [hr]) b hb).2 ?_) (h.ok r (by simp [hr]))
      rintro ⟨s, hs, hb'⟩
      exact (List.pairwise_append.1 h.sep).2.2 s hs r hr b hb' hb
  rng := by
    intro r hr b hb
    rcases List.mem_append.1 hr with hr | hr
    · obtain ⟨h1, h2⟩ := h'.rng r hr b hb
      refine ⟨?_, h2⟩
      rcases h1 with ⟨s, hs, hb'⟩ | h1
      · exact (h.rng s (by simp [hs]) b hb').1
      · exact .inr (Nat.le_trans h.size h1)
    · have h1 := h.rng r (by simp [hr]) b hb
      exact ⟨h1.1, Nat.lt_of_lt_of_le h1.2 h'.chg.size⟩
  sep := by
    refine List.pairwise_append.2 ⟨h'.sep, (List.pairwise_append.1 h.sep).2.1, fun r hr s hs b hb hb' => ?_⟩
    rcases (h'.rng r hr b hb).1 with ⟨q, hq, hb2⟩ | h1
    · exact (List.pairwise_append.1 h.sep).2.2 q hq s hs b hb2 hb'
    · have := (h.rng s (by simp [hs]) b hb').2; omega

theorem Held.oldM {M : Nat → Prop} {w0 : World} {rs : List Res} {w : World} {α : Type} {E : Enc α} {A : Option Addr} {c : Nat} {xs : List α} (h : Held M w0 rs w) (hs : Sl E w0 (Out M w0) A c xs) : Sl E w (Old w) A c xs :=
  (hs.keep (fun p hp => World.cell?_of_block (w := w0) (h.chg.block p.block hp.1 hp.2))).more fun b hb => Nat.lt_of_lt_of_le hb.1 h.chg.size

theorem Held.oldRM {M : Nat → Prop} {w0 : World} {rs : List Res} {w : World} {α : Type} {E : Enc α} {cs : List Value} {x : α} (h : Held M w0 rs w) (hs : E.R w0 (Out M w0) cs x) : E.R w (Old w) cs x :=
  E.more (E.keep hs (fun p hp => World.cell?_of_block (w := w0) (h.chg.block p.block hp.1 hp.2))) fun b hb => Nat.lt_of_lt_of_le hb.1 h.chg.size

/-- A borrowed slice, as a callee that rewrites xs sees it. -/
theorem Held.lend {w0 : World} {xs rs : List Res} {w : World} {α : Type} {E : Enc α} {A : Option Addr} {c : Nat} {zs : List α} (h : Held Nob w0 (xs ++ rs) w) (hs : Sl E w0 (Old w0) A c zs) : Sl E w (Out (Foot xs) w) A c zs :=
  (hs.keep (fun p hp => h.cell0 hp fun h => h)).more fun b hb => ⟨Nat.lt_of_lt_of_le hb h.size, by
    rintro ⟨r, hr, hb'⟩
    rcases (h.rng r (by simp [hr]) b hb').1 with q | q
    · exact q.elim
    · have : b < w0.heap.size := hb
      omega⟩

theorem Held.lendM {M : Nat → Prop} {w0 : World} {xs rs : List Res} {w : World} {α : Type} {E : Enc α} {A : Option Addr} {c : Nat} {zs : List α} (h : Held M w0 (xs ++ rs) w) (hs : Sl E w0 (Out M w0) A c zs) : Sl E w (Out (Foot xs) w) A c zs :=
  (hs.keep (fun p hp => h.cell0 hp.1 hp.2)).more fun b hb => ⟨Nat.lt_of_lt_of_le hb.1 h.size, by
    rintro ⟨r, hr, hb'⟩
    rcases (h.rng r (by simp [hr]) b hb').1 with q | q
    · exact hb.2 q
    · have : b < w0.heap.size := hb.1
      omega⟩

/-- A part that is owned, as a callee that rewrites other parts sees it. -/
theorem Held.lendR {M : Nat → Prop} {w0 : World} {xs rs : List Res} {w : World} {α : Type} {E : Enc α} {S : Nat → Prop} {cs : List Value} {x : α} (h : Held M w0 (xs ++ rs) w) {i : Nat} (hi : rs[i]? = some (rO E S cs x)) : E.R w (Out (Foot xs) w) cs x :=
  E.more (E.read (h.ok _ (List.mem_append_right _ (List.mem_of_getElem? hi)))) fun b hb => ⟨(h.rng _ (List.mem_append_right _ (List.mem_of_getElem? hi)) b hb).2, by
    rintro ⟨r, hr, hb'⟩
    exact (List.pairwise_append.1 h.sep).2.2 r hr _ (List.mem_of_getElem? hi) b hb' hb⟩

theorem Held.lendO {w0 : World} {xs rs : List Res} {w : World} {α : Type} {E : Enc α} {cs : List Value} {x : α} (h : Held Nob w0 (xs ++ rs) w) (hs : E.R w0 (Old w0) cs x) : E.R w (Out (Foot xs) w) cs x :=
  E.more (E.keep hs (fun p hp => h.cell0 hp fun h => h)) fun b hb => ⟨Nat.lt_of_lt_of_le hb h.size, by
    rintro ⟨r, hr, hb'⟩
    rcases (h.rng r (by simp [hr]) b hb').1 with q | q
    · exact q.elim
    · have : b < w0.heap.size := hb
      omega⟩

theorem Held.lendOM {M : Nat → Prop} {w0 : World} {xs rs : List Res} {w : World} {α : Type} {E : Enc α} {cs : List Value} {x : α} (h : Held M w0 (xs ++ rs) w) (hs : E.R w0 (Out M w0) cs x) : E.R w (Out (Foot xs) w) cs x :=
  E.more (E.keep hs (fun p hp => h.cell0 hp.1 hp.2)) fun b hb => ⟨Nat.lt_of_lt_of_le hb.1 h.size, by
    rintro ⟨r, hr, hb'⟩
    rcases (h.rng r (by simp [hr]) b hb').1 with q | q
    · exact hb.2 q
    · have : b < w0.heap.size := hb.1
      omega⟩

theorem Held.nfB {M : Nat → Prop} {w0 : World} {xs rs : List Res} {w : World} (h : Held M w0 (xs ++ rs) w) {i g : Nat} {t : TypeId} {cs : List Value} (hi : rs[i]? = some (rBlk g t cs)) : ¬ Foot xs g := by
  rintro ⟨r, hr, hb'⟩
  exact (List.pairwise_append.1 h.sep).2.2 r hr _ (List.mem_of_getElem? hi) g hb' rfl

theorem block_of_cell {w : World} {b o : Nat} {v : Value} (h : w.cell? ⟨b, o, none⟩ = some v) : b < w.heap.size := by
  rcases Nat.lt_or_ge b w.heap.size with h1 | h1
  · exact h1
  · exfalso
    unfold World.cell? at h
    simp [Array.getElem?_eq_none h1] at h

theorem Held.nfO {w0 : World} {xs rs : List Res} {w : World} (h : Held Nob w0 (xs ++ rs) w) {b o : Nat} {v : Value} (hc : w0.cell? ⟨b, o, none⟩ = some v) : ¬ Foot xs b := by
  rintro ⟨r, hr, hb'⟩
  rcases (h.rng r (by simp [hr]) b hb').1 with q | q
  · exact q.elim
  · have := block_of_cell hc
    omega

theorem Held.nfOM {M : Nat → Prop} {w0 : World} {xs rs : List Res} {w : World} (h : Held M w0 (xs ++ rs) w) {b o : Nat} {v : Value} (hM : ¬ M b) (hc : w0.cell? ⟨b, o, none⟩ = some v) : ¬ Foot xs b := by
  rintro ⟨r, hr, hb'⟩
  rcases (h.rng r (by simp [hr]) b hb').1 with q | q
  · exact hM q
  · have := block_of_cell hc
    omega

theorem c_oldM {M : Nat → Prop} {w0 : World} {rs : List Res} {b o : Nat} {v : Value} (hM : ¬ M b) (hc : w0.cell? ⟨b, o, none⟩ = some v) : ∀ w, Held M w0 rs w → w.cell? ⟨b, o, none⟩ = some v := fun w h => by
  rw [h.cell0 (lt_of_cell hc) hM]; exact hc

theorem c_oldNM {M : Nat → Prop} {w0 : World} {rs : List Res} {b o : Nat} {cs : List Value} (hM : ¬ M b) (hc : ∀ j v, cs[j]? = some v → w0.cell? ⟨b, o + j, none⟩ = some v) : ∀ w, Held M w0 rs w → ∀ j v, cs[j]? = some v → w.cell? ⟨b, o + j, none⟩ = some v := fun w h j v hv => c_oldM hM (hc j v hv) w h

/-- The flat part in front given up. -/
theorem Held.unF {M : Nat → Prop} {w0 : World} {rs : List Res} {w : World} {α β : Type} {E : Enc α} {F : Enc β} {S : Nat → Prop} {v : Value} {cs : List Value} {x : α × β} (h1 : E.size = 1) (h : Held M w0 (rO (ePr E F) S (v :: cs) x :: rs) w) : Held M w0 (rO F S cs x.2 :: rs) w := by
  refine h.turn _ ?_ fun _ hb => hb
  rintro ⟨c1, c2, S1, S2, he, k1, k2, o1, o2⟩
  have hl := E.len (E.read o1)
  rw [h1] at hl
  obtain ⟨u, rfl⟩ := List.length_eq_one_iff.1 hl
  simp at he
  obtain ⟨_, rfl⟩ := he
  exact F.omore o2 k2

theorem Held.unP {M : Nat → Prop} {w0 : World} {rs : List Res} {w : World} {α β : Type} {E : Enc α} {F : Enc β} {S : Nat → Prop} {v : Value} {cs : List Value} {x : α × β} (h1 : E.size = 1) (h : Held M w0 (rO (ePr E F) S (v :: cs) x :: rs) w) : ∃ S1 S2, Held M w0 (rO E S1 [v] x.1 :: rO F S2 cs x.2 :: rs) w := by
  obtain ⟨c1, c2, S1, S2, he, k1, k2, o1, o2⟩ := h.ok _ (List.mem_cons_self)
  have hl := E.len (E.read o1)
  rw [h1] at hl
  obtain ⟨u, rfl⟩ := List.length_eq_one_iff.1 hl
  simp at he
  obtain ⟨rfl, rfl⟩ := he
  have hs := List.pairwise_cons.1 h.sep
  refine ⟨S1, S2, h.chg, ?_, ?_, ?_⟩
  · intro r hr
    simp only [List.mem_cons] at hr
    rcases hr with rfl | rfl | hr
    · exact o1
    · exact o2
    · exact h.ok r (by simp [hr])
  · intro r hr b hb
    simp only [List.mem_cons] at hr
    rcases hr with rfl | rfl | hr
    · exact h.rng _ (List.mem_cons_self) b (k1 b hb).1
    · exact h.rng _ (List.mem_cons_self) b (k2 b hb)
    · exact h.rng r (by simp [hr]) b hb
  · refine List.pairwise_cons.2 ⟨fun r hr b hb hb' => ?_, List.pairwise_cons.2 ⟨fun r hr b hb hb' => hs.1 r hr b (k2 b hb) hb', hs.2⟩⟩
    rcases List.mem_cons.1 hr with rfl | hr
    · exact (k1 b hb).2 hb'
    · exact hs.1 r hr b (k1 b hb).1 hb'

/-- An owned slice with one element laid open: its cells es; what the element owns (T) is held apart. -/
def Foc {α : Type} (E : Enc α) (w : World) (S : Nat → Prop) (b off c : Nat) (xs : List α) (k : Nat) (es : List Value) : Prop :=
  k < xs.length ∧ xs.length ≤ c ∧ c ≤ maxLen ∧ S b ∧ es.length = E.size ∧ ∃ (t : TypeId) (cur : Array Value) (T : Nat → Nat → Prop), Blk w b t cur ∧ (∀ i m, T i m → S m ∧ m ≠ b) ∧ (∀ i j m, T i m → T j m → i = j) ∧
    (∀ j v, es[j]? = some v → cur[off + k * E.size + j]? = some v) ∧ ∀ (i : Nat) (x : α), i ≠ k → xs[i]? = some x → ∃ us, E.O w (T i) us x ∧ ∀ j v, us[j]? = some v → cur[off + i * E.size + j]? = some v

theorem Foc.keep {α : Type} {E : Enc α} {w w' : World} {S : Nat → Prop} {b off c : Nat} {xs : List α} {k : Nat} {es : List Value} (h : Foc E w S b off c xs k es) (hk : ∀ b, S b → w'.heap[b]? = w.heap[b]?) : Foc E w' S b off c xs k es := by
  obtain ⟨h1, h2, h3, h4, h5, t, cur, T, hB, hT, hd, hc, hr⟩ := h
  refine ⟨h1, h2, h3, h4, h5, t, cur, T, (hk b h4).trans hB, hT, hd, hc, fun i x hi hx => ?_⟩
  obtain ⟨us, q1, q2⟩ := hr i x hi hx
  exact ⟨us, E.okeep q1 fun m hm => hk m (hT i m hm).1, q2⟩

def rFoc {α : Type} (E : Enc α) (S : Nat → Prop) (b off c : Nat) (xs : List α) (k : Nat) (es : List Value) : Res := ⟨S, fun w => Foc E w S b off c xs k es, fun _ _ h hf => hf.keep h⟩

theorem Held.open {M : Nat → Prop} {w0 : World} {rs : List Res} {w : World} {α : Type} {E : Enc α} {S : Nat → Prop} {A : Option Addr} {c : Nat} {xs : List α} (h : Held M w0 (rSo E S A c xs :: rs) w) {k : Nat} (hk : k < xs.length) :
    ∃ b off es T, A = some ⟨b, off, none⟩ ∧ E.R w (Old w) es xs[k] ∧ (∀ m, T m → S m ∧ m ≠ b) ∧ Held M w0 (rFoc E (fun m => S m ∧ ¬ T m) b off c xs k es :: rO E T es xs[k] :: rs) w := by
  have hso := so_of_o (h.ok _ (List.mem_cons_self))
  have hrng := h.rng _ (List.mem_cons_self)
  obtain ⟨b, off, t, cur, T, hA, hb, hB, hT, hd, hc⟩ := hso.2.2 (by intro e; subst e; simp at hk)
  obtain ⟨es, h1, h2⟩ := hc k xs[k] (List.getElem?_eq_getElem hk)
  have hs := List.pairwise_cons.1 h.sep
  refine ⟨b, off, es, T k, hA, E.more (E.read h1) (fun m hm => (hrng m (hT k m hm).1).2), fun m hm => hT k m hm, h.chg, ?_, ?_, ?_⟩
  · intro r hr
    simp only [List.mem_cons] at hr
    rcases hr with rfl | rfl | hr
    · refine ⟨hk, hso.1, hso.2.1, ⟨hb, fun hm => (hT k b hm).2 rfl⟩, E.len (E.read h1), t, cur, fun i m => i ≠ k ∧ T i m, hB, fun i m hm => ⟨⟨(hT i m hm.2).1, fun hm' => hm.1 (hd i k m hm.2 hm')⟩, (hT i m hm.2).2⟩, fun i j m h3 h4 => hd i j m h3.2 h4.2, h2, fun i x hi hx => ?_⟩
      obtain ⟨us, q1, q2⟩ := hc i x hx
      exact ⟨us, E.omore q1 fun m hm => ⟨hi, hm⟩, q2⟩
    · exact h1
    · exact h.ok r (by simp [hr])
  · intro r hr m hm
    simp only [List.mem_cons] at hr
    rcases hr with rfl | rfl | hr
    · exact hrng m hm.1
    · exact hrng m (hT k m hm).1
    · exact h.rng r (by simp [hr]) m hm
  · refine List.pairwise_cons.2 ⟨fun r hr m hm hm' => ?_, List.pairwise_cons.2 ⟨fun r hr m hm hm' => hs.1 r hr m (hT k m hm).1 hm', hs.2⟩⟩
    rcases List.mem_cons.1 hr with rfl | hr
    · exact hm.2 hm'
    · exact hs.1 r hr m hm.1 hm'

theorem Held.shut {M : Nat → Prop} {w0 : World} {rs : List Res} {w : World} {α : Type} {E : Enc α} {S T : Nat → Prop} {b off c k : Nat} {xs : List α} {es : List Value} {y : α} (h : Held M w0 (rFoc E S b off c xs k es :: rO E T es y :: rs) w) : Held M w0 (rSo E (fun m => S m ∨ T m) (some ⟨b, off, none⟩) c (xs.set k y) :: rs) w := by
  refine h.join _ (fun hf ho hd => ?_) fun _ hb => hb
  obtain ⟨h1, h2, h3, h4, h5, t, cur, T', hB, hT, hd', hc, hr⟩ := hf
  refine oSl ⟨by rw [List.length_set]; exact h2, h3, fun _ => ⟨b, off, t, cur, fun i m => (i = k ∧ T m) ∨ (i ≠ k ∧ T' i m), rfl, .inl h4, hB, ?_, ?_, fun i x hx => ?_⟩⟩
  · rintro i m (⟨_, hm⟩ | ⟨_, hm⟩)
    · exact ⟨.inr hm, fun e => hd b h4 (e ▸ hm)⟩
    · exact ⟨.inl (hT i m hm).1, (hT i m hm).2⟩
  · rintro i j m (⟨hi, hm⟩ | ⟨hi, hm⟩) (⟨hj, hm'⟩ | ⟨hj, hm'⟩)
    · rw [hi, hj]
    · exact absurd hm (hd m (hT j m hm').1)
    · exact absurd hm' (hd m (hT i m hm).1)
    · exact hd' i j m hm hm'
  · by_cases e : i = k
    · subst e
      rw [List.getElem?_set_self h1] at hx
      simp at hx; subst hx
      exact ⟨es, E.omore ho fun m hm => .inl ⟨rfl, hm⟩, hc⟩
    · rw [List.getElem?_set_ne (fun h => e h.symm)] at hx
      obtain ⟨us, q1, q2⟩ := hr i x e hx
      exact ⟨us, E.omore q1 fun m hm => .inr ⟨e, hm⟩, q2⟩

theorem c_foc {M : Nat → Prop} {w0 : World} {rs : List Res} {α : Type} {E : Enc α} {S : Nat → Prop} {b off c k : Nat} {xs : List α} {es : List Value} {j : Nat} {v : Value} (i : Nat) (hi : rs[i]? = some (rFoc E S b off c xs k es)) (hv : es[j]? = some v) : ∀ w, Held M w0 rs w → w.cell? ⟨b, off + k * E.size + j, none⟩ = some v := fun w h => by
  obtain ⟨h1, h2, h3, h4, h5, t, cur, T, hB, hT, hd, hc, hr⟩ := h.get hi
  rw [hB.cell]; exact hc j v hv

/-- A store into a cell of the element that is laid open. -/
theorem st_storeF {P : Program} {ops : Array Oper} {Q : Exit → Act → World → Prop} {a : Act} {w : World} {K : Act → World → Prop} {n : Nat} {L : List (Nat × Value)} {M : Nat → Prop} {w0 : World} {rs : List Res} {α : Type} {E : Enc α} {t : TypeId} {z0 : Value} {x y : Operand} {S : Nat → Prop} {b off c k j o : Nat} {xs : List α} {es : List Value} {v : Value} {ty : TypeId} {pos : String} {af : Array Edge} {gd : Option (Nat × Bool)} (i : Nat) (hE : Env n L a) (hH : Held M w0 rs w) (ht : TV P t false [z0]) (hx : ev L x = some (.pointer (some ⟨b, o, none⟩))) (ho : o = off + k * E.size + j) (hy : ev L y = some v) (hv : v.oneCell' = true) (hi : rs[i]? = some (rFoc E S b off c xs k es)) (hj : Nat.blt j es.length = true) (hw : Region.wanted ⟨none, .store t x y, ty, pos, af, gd⟩ (yielded ops a.tmps) = true)
    (kk : ∀ w', Held M w0 (rs.set i (rFoc E S b off c xs k (es.set j v))) w' → K a w') : Stp P ops Q ⟨none, .store t x y, ty, pos, af, gd⟩ a w K := by
  have hj' : j < es.length := by simpa [Nat.blt_eq] using hj
  have hf : Foc E w S b off c xs k es := hH.get hi
  subst ho
  obtain ⟨h1, h2, h3, h4, h5, tt, cur, T, hB, hT, hd, hc, hr⟩ := hf
  have hcell : w.cell? ⟨b, off + k * E.size + j, none⟩ = some es[j] := by rw [hB.cell]; exact hc j _ (List.getElem?_eq_getElem hj')
  have hfz : w.frozen? ⟨b, off + k * E.size + j, none⟩ = false := hB.frozen _
  have hlt : off + k * E.size + j < cur.size := lt_of_get (hc j _ (List.getElem?_eq_getElem hj'))
  have hnew : Foc E (w.setCell ⟨b, off + k * E.size + j, none⟩ v) S b off c xs k (es.set j v) := by
    refine ⟨h1, h2, h3, h4, by simpa using h5, tt, _, T, hB.set _ v, hT, hd, fun j' u hu => ?_, fun i' y' hi' hx' => ?_⟩
    · by_cases e : j' = j
      · subst e
        rw [List.getElem?_set_self hj'] at hu
        rw [Array.getElem?_setIfInBounds_self_of_lt hlt]; exact hu
      · rw [List.getElem?_set_ne (fun h => e h.symm)] at hu
        rw [Array.getElem?_setIfInBounds_ne (by omega)]; exact hc j' u hu
    · obtain ⟨us, q1, q2⟩ := hr i' y' hi' hx'
      refine ⟨us, E.okeep q1 fun m hm => Below.heap_setCell _ _ _ _ (hT i' m hm).2, fun j' u hu => ?_⟩
      have hju := (List.getElem?_eq_some_iff.1 hu).1
      have hlu := E.len (E.read q1)
      rw [Array.getElem?_setIfInBounds_ne]
      · exact q2 j' u hu
      · rcases Nat.lt_or_gt_of_ne hi' with hlt' | hlt'
        · have : (i' + 1) * E.size ≤ k * E.size := Nat.mul_le_mul_right _ (by omega)
          rw [Nat.succ_mul] at this; omega
        · have : (k + 1) * E.size ≤ i' * E.size := Nat.mul_le_mul_right _ (by omega)
          rw [Nat.succ_mul] at this; omega
  have h6 : Held M w0 (rs.set i (rFoc E S b off c xs k (es.set j v))) (w.setCell ⟨b, off + k * E.size + j, none⟩ v) := hH.mut hi ((Chg.refl _ _).set (by exact h4) _) (rFoc E S b off c xs k (es.set j v)) hnew fun b hb => .inl hb
  refine st_skip hw ?_ rfl (kk _ h6)
  obtain ⟨ii, z, e1, _, e3, _⟩ := ht.info
  simp only [execOp, hE.ev hx, hE.ev hy, Instr.storeAt, Instr.sureAddr, storeVar, sizeOf, typeInfo, Sem.run_bind, Sem.run_pure, Result.andThen_ok, run_program, e1]
  have e3' : ii.size = 1 := e3
  have hs : (Go.store ⟨b, off + k * E.size + j, none⟩ v).run P w = .ok () (w.setCell ⟨b, off + k * E.size + j, none⟩ v) := by
    cases v <;> first | (simp [Value.oneCell'] at hv; done) | simp [Go.store, Sem.run, hcell, hfz]
  simp [one_cells hv, e3', storeCells, add_none, hs]

theorem c_ownV {M : Nat → Prop} {w0 : World} {rs : List Res} {S : Nat → Prop} {b off c k : Nat} {xs : List Int} {y : Int} (i : Nat) (hi : rs[i]? = some (rSo eInt S (some ⟨b, off, none⟩) c xs)) (hk : k < xs.length) (hy : xs[k] = y) : ∀ w, Held M w0 rs w → w.cell? ⟨b, off + k * 1, none⟩ = some (.int .i64 y) := fun w h => by
  rw [← hy]; exact c_ownI i hi hk w h

theorem Held.relen {M : Nat → Prop} {w0 : World} {rs : List Res} {w : World} {α : Type} {E : Enc α} {S : Nat → Prop} {A : Option Addr} {c n : Nat} {xs : List α} (h : Held M w0 (rSo E S A c xs :: rs) w) (hn : xs.length = n) : Held M w0 (rO (eSl E) S [.slice A n c] xs :: rs) w := hn ▸ h

theorem Held.lt {M : Nat → Prop} {w0 : World} {rs : List Res} {w : World} (h : Held M w0 rs w) {i : Nat} {r : Res} (hi : rs[i]? = some r) : ∀ b, r.S b → b < w.heap.size := fun b hb => (h.rng r (List.mem_of_getElem? hi) b hb).2

/-- What a callee made, beside what is held. -/
theorem Held.app {M : Nat → Prop} {w0 : World} {rs qs : List Res} {w w' : World} (h : Held M w0 rs w) (h' : Held Nob w qs w') : Held M w0 (qs ++ rs) w' where
  chg := (h.on h'.below).chg
  ok := by
    intro r hr
    rcases List.mem_append.1 hr with hr | hr
    · exact h'.ok r hr
    · exact (h.on h'.below).ok r hr
  rng := by
    intro r hr b hb
    rcases List.mem_append.1 hr with hr | hr
    · have h1 := h'.rng r hr b hb
      exact ⟨.inr (Nat.le_trans h.size (h1.1.resolve_left fun q => q.elim)), h1.2⟩
    · exact (h.on h'.below).rng r hr b hb
  sep := by
    refine List.pairwise_append.2 ⟨h'.sep, h.sep, fun r hr s hs b hb hb' => ?_⟩
    have h1 := (h'.rng r hr b hb).1.resolve_left fun q => q.elim
    have h2 := (h.rng s hs b hb').2
    omega

/-- Held only if p holds. -/
def rIf (p : Prop) (r : Res) : Res := ⟨r.S, fun w => p → r.φ w, fun w w' h hp hq => r.loc w w' h (hp hq)⟩

theorem Held.toIf {M : Nat → Prop} {w0 : World} {rs : List Res} {r : Res} {w : World} (h : Held M w0 (r :: rs) w) (p : Prop) : Held M w0 (rIf p r :: rs) w :=
  h.turn (rIf p r) (fun hr _ => hr) fun _ h => h

theorem Held.ofIf {M : Nat → Prop} {w0 : World} {rs : List Res} {r : Res} {w : World} {p : Prop} (h : Held M w0 (rIf p r :: rs) w) (hp : p) : Held M w0 (r :: rs) w :=
  h.turn r (fun hr => hr hp) fun _ h => h

theorem Held.noIf {M : Nat → Prop} {w0 : World} {rs : List Res} {w : World} {p : Prop} (h : Held M w0 rs w) {α : Type} {E : Enc α} {A : Option Addr} {c : Nat} {xs : List α} (r : Res) (hp : ¬ p) (hr : r = rSo E Nob A c xs := by rfl) : Held M w0 (rIf p r :: rs) w := by
  subst hr
  exact h.new (Below.refl _ _) (rIf p (rSo E Nob A c xs)) (fun hq => absurd hq hp) fun _ h => h.elim

/-- n cells, as they are. -/
def eRaw (n : Nat) (hn : 0 < n) : Enc (List Value) where
  size := n
  pos := hn
  R := fun _ _ cs x => cs = x ∧ x.length = n ∧ ∀ v ∈ x, v.oneCell' = true
  len := by rintro _ _ _ _ ⟨rfl, h, _⟩; exact h
  keep := fun h _ => h
  more := fun h _ => h
  O := fun _ _ cs x => cs = x ∧ x.length = n ∧ ∀ v ∈ x, v.oneCell' = true
  read := fun h => h
  okeep := fun h _ => h
  omore := fun h _ => h

/-- What the elements own, each for itself. -/
def Els {α : Type} (E : Enc α) (w : World) : (Nat → Prop) → List (List Value × α) → Prop
  | _, [] => True
  | S, p :: ps => ∃ S1 S2 : Nat → Prop, (∀ b, S1 b → S b ∧ ¬ S2 b) ∧ (∀ b, S2 b → S b) ∧ E.O w S1 p.1 p.2 ∧ Els E w S2 ps

theorem Els.keep {α : Type} {E : Enc α} {w w' : World} : ∀ {ps : List (List Value × α)} {S : Nat → Prop}, Els E w S ps → (∀ b, S b → w'.heap[b]? = w.heap[b]?) → Els E w' S ps
  | [], _, _, _ => trivial
  | _ :: _, _, ⟨S1, S2, h1, h2, h3, h4⟩, hk => ⟨S1, S2, h1, h2, E.okeep h3 fun b hb => hk b (h1 b hb).1, Els.keep h4 fun b hb => hk b (h2 b hb)⟩

theorem Els.more {α : Type} {E : Enc α} {w : World} : ∀ {ps : List (List Value × α)} {S S' : Nat → Prop}, Els E w S ps → (∀ b, S b → S' b) → Els E w S' ps
  | [], _, _, _, _ => trivial
  | _ :: _, _, _, ⟨S1, S2, h1, h2, h3, h4⟩, hm => ⟨S1, S2, fun b hb => ⟨hm b (h1 b hb).1, (h1 b hb).2⟩, fun b hb => hm b (h2 b hb), h3, h4⟩

theorem Els.perm {α : Type} {E : Enc α} {w : World} {ps qs : List (List Value × α)} (h : ps.Perm qs) : ∀ S, Els E w S ps → Els E w S qs := by
  induction h with
  | nil => exact fun _ h => h
  | cons p _ ih => rintro S ⟨S1, S2, h1, h2, h3, h4⟩; exact ⟨S1, S2, h1, h2, h3, ih _ h4⟩
  | swap p q ps =>
    rintro S ⟨S1, S2, h1, h2, h3, S3, S4, h5, h6, h7, h8⟩
    refine ⟨S3, fun b => S1 b ∨ S4 b, fun b hb => ⟨h2 b (h5 b hb).1, ?_⟩, ?_, h7, S1, S4, fun b hb => ⟨.inl hb, fun h => (h1 b hb).2 (h6 b h)⟩, fun b hb => .inr hb, h3, h8⟩
    · rintro (h | h)
      · exact (h1 b h).2 (h5 b hb).1
      · exact (h5 b hb).2 h
    · rintro b (h | h)
      · exact (h1 b h).1
      · exact h2 b (h6 b h)
  | trans _ _ i1 i2 => exact fun S h => i2 S (i1 S h)

theorem els_of {α : Type} {E : Enc α} {w : World} : ∀ (ps : List (List Value × α)) (T : Nat → Nat → Prop), (∀ i j b, T i b → T j b → i = j) → (∀ i p, ps[i]? = some p → E.O w (T i) p.1 p.2) → Els E w (fun b => ∃ i, T i b) ps
  | [], _, _, _ => trivial
  | p :: ps, T, hd, h => ⟨T 0, fun b => ∃ i, T (i + 1) b, fun b hb => ⟨⟨0, hb⟩, fun ⟨i, hi⟩ => by have := hd _ _ _ hb hi; omega⟩, fun b ⟨i, hi⟩ => ⟨i + 1, hi⟩, h 0 p rfl, els_of ps (fun i => T (i + 1)) (fun i j b h1 h2 => by have := hd _ _ _ h1 h2; omega) fun i q hq => h (i + 1) q (by simpa using hq)⟩

theorem els_fam {α : Type} {E : Enc α} {w : World} : ∀ (ps : List (List Value × α)) (S : Nat → Prop), Els E w S ps → ∃ T : Nat → Nat → Prop, (∀ i b, T i b → S b) ∧ (∀ i j b, T i b → T j b → i = j) ∧ ∀ i p, ps[i]? = some p → E.O w (T i) p.1 p.2
  | [], _, _ => ⟨fun _ _ => False, fun _ _ h => h.elim, fun _ _ _ h => h.elim, fun i p h => by simp at h⟩
  | p :: ps, S, ⟨S1, S2, h1, h2, h3, h4⟩ => by
    obtain ⟨T, t1, t2, t3⟩ := els_fam ps S2 h4
    refine ⟨fun i => match i with | 0 => S1 | i + 1 => T i, fun i b hb => ?_, fun i j b hi hj => ?_, fun i q hq => ?_⟩
    · cases i with
      | zero => exact (h1 b hb).1
      | succ i => exact h2 b (t1 i b hb)
    · cases i with
      | zero =>
        cases j with
        | zero => rfl
        | succ j => exact absurd (t1 j b hj) (h1 b hi).2
      | succ i =>
        cases j with
        | zero => exact absurd (t1 i b hi) (h1 b hj).2
        | succ j => rw [t2 i j b hi hj]
    · cases i with
      | zero => simp at hq; subst hq; exact h3
      | succ i => exact t3 i q (by simpa using hq)

def rEls {α : Type} (E : Enc α) (S : Nat → Prop) (ps : List (List Value × α)) : Res := ⟨S, fun w => Els E w S ps, fun _ _ h hv => hv.keep h⟩

/-- One part becomes two. -/
theorem Held.cleave {M : Nat → Prop} {w0 : World} {r : Res} {rs : List Res} {w : World} (h : Held M w0 (r :: rs) w) (p q : Res) (hp : p.φ w) (hq : q.φ w) (h1 : ∀ b, p.S b → r.S b) (h2 : ∀ b, q.S b → r.S b) (hd : ∀ b, p.S b → ¬ q.S b) : Held M w0 (p :: q :: rs) w where
  chg := h.chg
  ok := by
    intro x hx
    rcases List.mem_cons.1 hx with rfl | hx
    · exact hp
    rcases List.mem_cons.1 hx with rfl | hx
    · exact hq
    exact h.ok x (by simp [hx])
  rng := by
    intro x hx b hb
    rcases List.mem_cons.1 hx with rfl | hx
    · exact h.rng r (by simp) b (h1 b hb)
    rcases List.mem_cons.1 hx with rfl | hx
    · exact h.rng r (by simp) b (h2 b hb)
    exact h.rng x (by simp [hx]) b hb
  sep := by
    have hs := List.pairwise_cons.1 h.sep
    refine List.pairwise_cons.2 ⟨fun x hx b hb hb' => ?_, List.pairwise_cons.2 ⟨fun x hx b hb hb' => hs.1 x hx b (h2 b hb) hb', hs.2⟩⟩
    rcases List.mem_cons.1 hx with rfl | hx
    · exact hd b hb hb'
    · exact hs.1 x hx b (h1 b hb) hb'

/-- A row taken apart. -/
theorem Held.explode {M : Nat → Prop} {w0 : World} {rs : List Res} {w : World} {α : Type} {E : Enc α} {t : TypeId} {S : Nat → Prop} {A : Option Addr} {c : Nat} {xs : List α} (h : Held M w0 (rVec E t S A c xs :: rs) w) (h1 : ∀ w S es x, E.R w S es x → ∀ v ∈ es, v.oneCell' = true) :
    ∃ css S1 S2, List.length css = xs.length ∧ Held M w0 (rVec (eRaw E.size E.pos) t S1 A c css :: rEls E S2 (css.zip xs) :: rs) w := by
  obtain ⟨css, T, hl, ho, hb, hT, hd, hx⟩ := (h.ok _ List.mem_cons_self : Vec E t w S (.slice A xs.length c) xs)
  refine ⟨css, fun b => Value.ownBlock (.slice A xs.length c) = some b, fun b => ∃ i, T i b, hl, h.cleave _ _ ?_ ?_ (fun b hb' => hb b hb') (fun b ⟨i, hi⟩ => (hT i b hi).1) (fun b hb' ⟨i, hi⟩ => (hT i b hi).2 hb')⟩
  · show Vec (eRaw E.size E.pos) t w _ (.slice A css.length c) css
    rw [hl]
    refine ⟨css, fun _ _ => False, rfl, ?_, fun b hb' => hb', fun _ _ h => h.elim, fun _ _ _ h => h.elim, fun i x hi => ⟨x, hi, rfl, ?_⟩⟩
    · rw [hl]; exact ho
    · have hi' := (List.getElem?_eq_some_iff.1 hi).1
      obtain ⟨es, h2, h3⟩ := hx i xs[i] (List.getElem?_eq_getElem (by omega))
      rw [h2] at hi
      obtain rfl := Option.some.inj hi
      exact ⟨E.len (E.read h3), h1 _ _ _ _ (E.read h3)⟩
  · refine els_of _ T hd fun i p hp => ?_
    rw [List.getElem?_zip_eq_some] at hp
    obtain ⟨es, h2, h3⟩ := hx i p.2 hp.2
    rw [h2] at hp
    rw [← Option.some.inj hp.1]; exact h3

/-- .. and put together again. -/
theorem Held.implode {M : Nat → Prop} {w0 : World} {rs : List Res} {w : World} {α : Type} {E : Enc α} {t : TypeId} {S1 S2 : Nat → Prop} {A : Option Addr} {c : Nat} {css : List (List Value)} {xs : List α} {ps : List (List Value × α)} (h : Held M w0 (rVec (eRaw E.size E.pos) t S1 A c css :: rEls E S2 ps :: rs) w) (hl : css.length = xs.length) (hp : ps.Perm (css.zip xs)) :
    ∃ S, Held M w0 (rVec E t S A c xs :: rs) w := by
  refine ⟨fun b => S1 b ∨ S2 b, h.join _ (fun h1 h2 hd => ?_) fun _ hb => hb⟩
  obtain ⟨css', T', hl', ho, hb, _, _, hx⟩ := (h1 : Vec (eRaw E.size E.pos) t w S1 (.slice A css.length c) css)
  have e : css' = css := List.ext_getElem? fun i => by
    rcases Nat.lt_or_ge i css.length with hi | hi
    · obtain ⟨es, h3, h4⟩ := hx i css[i] (List.getElem?_eq_getElem hi)
      rw [h3, List.getElem?_eq_getElem hi, h4.1]
    · rw [List.getElem?_eq_none (by omega), List.getElem?_eq_none hi]
  subst e
  obtain ⟨T, t1, t2, t3⟩ := els_fam _ _ (Els.perm hp _ (h2 : Els E w S2 ps))
  show Vec E t w _ (.slice A xs.length c) xs
  rw [hl] at ho hb
  refine ⟨css', T, hl, ho, fun b hb' => .inl (hb b hb'), fun i b hi => ⟨.inr (t1 i b hi), fun hb' => hd b (hb b hb') (t1 i b hi)⟩, t2, fun i x hi => ?_⟩
  have hi' := (List.getElem?_eq_some_iff.1 hi).1
  have hc : css'[i]? = some css'[i] := List.getElem?_eq_getElem (by omega)
  exact ⟨css'[i], hc, t3 i (css'[i], x) (List.getElem?_zip_eq_some.2 ⟨hc, hi⟩)⟩

/-- The first element's memory, for itself. -/
theorem Held.peel {M : Nat → Prop} {w0 : World} {rs : List Res} {w : World} {α : Type} {E : Enc α} {S : Nat → Prop} {p : List Value × α} {ps : List (List Value × α)} (h : Held M w0 (rEls E S (p :: ps) :: rs) w) : ∃ S1 S2, Held M w0 (rO E S1 p.1 p.2 :: rEls E S2 ps :: rs) w := by
  obtain ⟨S1, S2, h1, h2, h3, h4⟩ := (h.ok _ List.mem_cons_self : Els E w S (p :: ps))
  exact ⟨S1, S2, h.cleave (rO E S1 p.1 p.2) (rEls E S2 ps) h3 h4 (fun b hb => (h1 b hb).1) h2 fun b hb => (h1 b hb).2⟩

theorem Held.unpeel {M : Nat → Prop} {w0 : World} {rs : List Res} {w : World} {α : Type} {E : Enc α} {S1 S2 : Nat → Prop} {p : List Value × α} {ps : List (List Value × α)} (h : Held M w0 (rO E S1 p.1 p.2 :: rEls E S2 ps :: rs) w) : ∃ S, Held M w0 (rEls E S (p :: ps) :: rs) w :=
  ⟨fun b => S1 b ∨ S2 b, h.join (rEls E _ (p :: ps)) (fun h1 h2 hd => ⟨S1, S2, fun b hb => ⟨.inl hb, hd b hb⟩, fun b hb => .inr hb, h1, h2⟩) fun _ hb => hb⟩

theorem Held.elsPerm {M : Nat → Prop} {w0 : World} {rs : List Res} {w : World} {α : Type} {E : Enc α} {S : Nat → Prop} {ps qs : List (List Value × α)} (h : Held M w0 (rEls E S ps :: rs) w) (hp : ps.Perm qs) : Held M w0 (rEls E S qs :: rs) w :=
  h.turn (rEls E S qs) (fun h1 => Els.perm hp _ h1) fun _ hb => hb

theorem Held.exch {M : Nat → Prop} {w0 : World} {rs : List Res} {w : World} (h : Held M w0 rs w) {i : Nat} {r : Res} (hi : rs[i]? = some r) (r' : Res) (hr : r'.φ w) (hS : ∀ b, r'.S b → r.S b) : Held M w0 (rs.set i r') w :=
  h.mut hi (Chg.refl _ _) r' hr fun b hb => .inl (hS b hb)

theorem Held.elsRd {M : Nat → Prop} {w0 : World} {rs : List Res} {w : World} {α : Type} {E : Enc α} {S : Nat → Prop} {ps : List (List Value × α)} (h : Held M w0 rs w) {i : Nat} (hi : rs[i]? = some (rEls E S ps)) {k : Nat} {es : List Value} {x : α} (hk : ps[k]? = some (es, x)) : E.R w (Old w) es x := by
  obtain ⟨T, t1, t2, t3⟩ := els_fam _ _ (h.get hi : Els E w S ps)
  exact E.more (E.read (t3 k (es, x) hk)) fun b hb => (h.rng _ (List.mem_of_getElem? hi) b (t1 k b hb)).2

theorem raw_vec {n : Nat} {hn : 0 < n} {t : TypeId} {w : World} {S : Nat → Prop} {A : Option Addr} {c : Nat} {css : List (List Value)} (h : Vec (eRaw n hn) t w S (.slice A css.length c) css) (h0 : css ≠ []) :
    ∃ (g : Nat) (cur : Array Value), A = some ⟨g, 0, none⟩ ∧ S g ∧ Blk w g t cur ∧ css.length ≤ c ∧ c ≤ maxLen ∧ cur.size = c * n ∧ cur.toList.take (css.length * n) = css.flatten ∧ (∀ es ∈ css, es.length = n ∧ ∀ v ∈ es, v.oneCell' = true) := by
  obtain ⟨css', T, hl, ho, hb, _, _, hx⟩ := h
  have hx2 : ∀ i (hi : i < css.length), css'[i]? = some css[i] ∧ css[i].length = n ∧ ∀ v ∈ css[i], v.oneCell' = true := fun i hi => by
    obtain ⟨es, h1, h2, h3, h4⟩ := hx i css[i] (List.getElem?_eq_getElem hi)
    subst h2
    exact ⟨h1, h3, h4⟩
  have e : css' = css := List.ext_getElem? fun i => by
    rcases Nat.lt_or_ge i css.length with hi | hi
    · rw [(hx2 i hi).1, List.getElem?_eq_getElem hi]
    · rw [List.getElem?_eq_none (by omega), List.getElem?_eq_none hi]
  subst e
  have hall : ∀ es ∈ css', es.length = n ∧ ∀ v ∈ es, v.oneCell' = true := fun es he => by
    obtain ⟨i, hi, rfl⟩ := List.mem_iff_getElem.1 he
    exact (hx2 i hi).2
  obtain ⟨ho1, ho2⟩ := ho
  rcases ho2 with ⟨h1, h2⟩ | ⟨g, cap, cur, hv, _, hh, h3, h4, h5, h6⟩
  · have hlen : css'.length = 0 := by
      simp only [Value.slice.injEq] at h1
      exact h1.2.1
    exact absurd (List.eq_nil_of_length_eq_zero hlen) h0
  · simp only [Value.slice.injEq] at hv
    obtain ⟨rfl, _, rfl⟩ := hv
    exact ⟨g, cur, rfl, hb g rfl, hh, h3, h4, h5, h6, hall⟩

theorem Held.rawAt {M : Nat → Prop} {w0 : World} {rs : List Res} {w : World} {n : Nat} {hn : 0 < n} {t : TypeId} {S : Nat → Prop} {A : Option Addr} {c : Nat} {css : List (List Value)} (h : Held M w0 rs w) {i : Nat} (hi : rs[i]? = some (rVec (eRaw n hn) t S A c css)) {k : Nat} (hk : k < css.length) : ∃ g, A = some ⟨g, 0, none⟩ := by
  obtain ⟨g, _, hA, _⟩ := raw_vec (h.get hi : Vec (eRaw n hn) t w S (.slice A css.length c) css) (fun e => by rw [e] at hk; exact absurd hk (Nat.not_lt_zero _))
  exact ⟨g, hA⟩

theorem Held.rawLen {M : Nat → Prop} {w0 : World} {rs : List Res} {w : World} {n : Nat} {hn : 0 < n} {t : TypeId} {S : Nat → Prop} {A : Option Addr} {c : Nat} {css : List (List Value)} (h : Held M w0 rs w) {i : Nat} (hi : rs[i]? = some (rVec (eRaw n hn) t S A c css)) : ∀ es ∈ css, es.length = n ∧ ∀ v ∈ es, v.oneCell' = true := by
  intro es he
  obtain ⟨g, _, _, _, _, _, _, _, _, hall⟩ := raw_vec (h.get hi : Vec (eRaw n hn) t w S (.slice A css.length c) css) (fun e => by rw [e] at he; cases he)
  exact hall es he

theorem c_rawN {M : Nat → Prop} {w0 : World} {rs : List Res} {n : Nat} {hn : 0 < n} {t : TypeId} {S : Nat → Prop} {g c : Nat} {css : List (List Value)} {es : List Value} (i : Nat) (hi : rs[i]? = some (rVec (eRaw n hn) t S (some ⟨g, 0, none⟩) c css)) {k m : Nat} (hm : m = n) (hk : css[k]? = some es) : ∀ w, Held M w0 rs w → ∀ j v, es[j]? = some v → w.cell? ⟨g, 0 + k * m + j, none⟩ = some v := fun w h j v hv => by
  subst hm
  have hk' := (List.getElem?_eq_some_iff.1 hk).1
  obtain ⟨g', cur, hA, _, hB, _, _, _, ht, hall⟩ := raw_vec (h.get hi : Vec (eRaw m hn) t w S (.slice (some ⟨g, 0, none⟩) css.length c) css) (fun e => by rw [e] at hk'; exact absurd hk' (Nat.not_lt_zero _))
  simp only [Option.some.injEq, Addr.mk.injEq, and_true] at hA
  obtain rfl := hA
  have hes := (hall es (List.mem_of_getElem? hk)).1
  have hj : j < m := by have := (List.getElem?_eq_some_iff.1 hv).1; omega
  have h1 := flatten_at m css (fun x hx => (hall x hx).1) k es hk j hj
  have h2 : k * m + j < css.length * m := by
    have : (k + 1) * m ≤ css.length * m := Nat.mul_le_mul_right _ hk'
    rw [Nat.succ_mul] at this; omega
  rw [hB.cell, ← hv, ← h1, ← ht, List.getElem?_take_of_lt h2, Nat.zero_add]
  simp

theorem setL_split (pre : List Value) : ∀ (vs mid post : List Value), mid.length = vs.length → setL (pre ++ mid ++ post) pre.length vs = pre ++ vs ++ post := by
  intro vs
  induction vs generalizing pre with
  | nil =>
    intro mid post h
    have : mid = [] := List.eq_nil_of_length_eq_zero (by simpa using h)
    subst this; rfl
  | cons v vs ih =>
    intro mid post h
    cases mid with
    | nil => simp at h
    | cons m mid =>
      have e : (pre ++ (m :: mid) ++ post).set pre.length v = (pre ++ [v]) ++ mid ++ post := by simp
      rw [setL, e]
      have := ih (pre ++ [v]) mid post (by simpa using h)
      rw [List.length_append, List.length_singleton] at this
      rw [this]; simp

/-- A whole element of raw cells is written. -/
theorem st_storeRaw {P : Program} {ops : Array Oper} {Q : Exit → Act → World → Prop} {a : Act} {w : World} {K : Act → World → Prop} {nn : Nat} {L : List (Nat × Value)} {M : Nat → Prop} {w0 : World} {rs : List Res} {t tb : TypeId} {agg : Bool} {zs : List Value} {x y : Operand} {g : Nat} {v : Value} {vs : List Value} {n : Nat} {hn : 0 < n} {S : Nat → Prop} {c : Nat} {css : List (List Value)} {k m : Nat} {ty : TypeId} {pos : String} {af : Array Edge} {gd : Option (Nat × Bool)} (i : Nat) (hE : Env nn L a) (hH : Held M w0 rs w) (ht : TV P t agg zs) (hx : ev L x = some (.pointer (some ⟨g, 0 + k * m, none⟩))) (hy : ev L y = some v) (hv : v.cells = vs.toArray) (hz : n = zs.length) (hi : rs[i]? = some (rVec (eRaw n hn) tb S (some ⟨g, 0, none⟩) c css)) (hm : m = n) (hk : k < css.length) (hl : vs.length = n) (h1 : ∀ v ∈ vs, v.oneCell' = true) (hw : Region.wanted ⟨none, .store t x y, ty, pos, af, gd⟩ (yielded ops a.tmps) = true)
    (kk : ∀ w', Held M w0 (rs.set i (rVec (eRaw n hn) tb (fun b => b = g) (some ⟨g, 0, none⟩) c (css.set k vs))) w' → K a w') : Stp P ops Q ⟨none, .store t x y, ty, pos, af, gd⟩ a w K := by
  subst hm
  obtain ⟨g', cur, hA, hSg, hB, hc1, hc2, hsz, htk, hall⟩ := raw_vec (hH.get hi : Vec (eRaw m hn) tb w S (.slice (some ⟨g, 0, none⟩) css.length c) css) (fun e => by rw [e] at hk; exact absurd hk (Nat.not_lt_zero _))
  simp only [Option.some.injEq, Addr.mk.injEq, and_true] at hA
  obtain rfl := hA
  have hi' := (List.getElem?_eq_some_iff.1 hi).1
  have h2 := hH.exch hi (rBlk g tb cur.toList) (show Blk w g tb cur.toList.toArray from by simpa using hB) (fun b (hb : b = g) => by subst hb; exact hSg)
  have e0 : css = css.take k ++ css[k] :: css.drop (k + 1) := by rw [← List.drop_eq_getElem_cons hk, List.take_append_drop]
  have hpre : (css.take k).flatten.length = k * m := by
    have key : ∀ l : List (List Value), (∀ x ∈ l, x.length = m) → l.flatten.length = l.length * m := by
      intro l
      induction l with
      | nil => intro _; simp
      | cons q l ih => intro hq; rw [List.flatten_cons, List.length_append, ih fun x hx => hq x (by simp [hx]), hq q (by simp), List.length_cons, Nat.succ_mul]; omega
    rw [key _ fun x hx => (hall x (List.mem_of_mem_take hx)).1, List.length_take, Nat.min_eq_left (by omega)]
  have hfl : css.flatten = (css.take k).flatten ++ css[k] ++ (css.drop (k + 1)).flatten := by
    conv => lhs; rw [e0]
    rw [List.flatten_append, List.flatten_cons, List.append_assoc]
  obtain ⟨rest, hrest⟩ : ∃ rest, cur.toList = css.flatten ++ rest := ⟨cur.toList.drop (css.length * m), by rw [← htk, List.take_append_drop]⟩
  have hset : setL cur.toList (k * m) vs = (css.set k vs).flatten ++ rest := by
    have := setL_split (css.take k).flatten vs css[k] ((css.drop (k + 1)).flatten ++ rest) (by rw [(hall css[k] (List.getElem_mem _)).1, hl])
    rw [hpre] at this
    rw [hrest, hfl, List.append_assoc, this, List.set_eq_take_append_cons_drop, if_pos hk, List.flatten_append, List.flatten_cons]
    simp
  have hcl : cur.toList.length = c * m := by simpa using hsz
  have hkm : k * m + vs.length ≤ cur.toList.length := by
    have : (k + 1) * m ≤ c * m := Nat.mul_le_mul_right _ (by omega)
    rw [Nat.succ_mul] at this; omega
  obtain ⟨w', h3, h4⟩ := run_storeAt (P := P) (o := 0 + k * m) ht hv (by omega) h2 (List.getElem?_set_self hi') (by omega) h1
  rw [List.set_set, Nat.zero_add, hset] at h4
  refine st_skip hw ?_ rfl (kk w' ?_)
  · simp only [execOp, hE.ev hx, hE.ev hy, Sem.run_bind, h3, Result.andThen_ok, Sem.run_pure]
  · have h5 := h4.exch (i := i) (List.getElem?_set_self hi') (rVec (eRaw m hn) tb (fun b => b = g) (some ⟨g, 0, none⟩) c (css.set k vs)) ?_ (fun b hb => hb)
    · rwa [List.set_set] at h5
    · have hB' : Blk w' g tb ((css.set k vs).flatten ++ rest).toArray := h4.get (List.getElem?_set_self hi')
      have hall' : ∀ es ∈ css.set k vs, es.length = m ∧ ∀ v ∈ es, v.oneCell' = true := fun es he => by
        rcases List.mem_or_eq_of_mem_set he with he | rfl
        · exact hall es he
        · exact ⟨hl, h1⟩
      have hlen : (css.set k vs).flatten.length = css.length * m := by
        have key : ∀ l : List (List Value), (∀ x ∈ l, x.length = m) → l.flatten.length = l.length * m := by
          intro l
          induction l with
          | nil => intro _; simp
          | cons q l ih => intro hq; rw [List.flatten_cons, List.length_append, ih fun x hx => hq x (by simp [hx]), hq q (by simp), List.length_cons, Nat.succ_mul]; omega
        rw [key _ fun x hx => (hall' x hx).1, List.length_set]
      show Vec (eRaw m hn) tb w' _ (.slice (some ⟨g, 0, none⟩) (css.set k vs).length c) (css.set k vs)
      refine ⟨css.set k vs, fun _ _ => False, rfl, ⟨by rw [List.length_set]; exact hlen, .inr ⟨g, c, _, by rw [List.length_set], Nat.zero_le _, hB', by rw [List.length_set]; exact hc1, hc2, ?_, ?_⟩⟩, fun b hb => by simpa [Value.ownBlock] using hb.symm, fun _ _ h => h.elim, fun _ _ _ h => h.elim, fun j es hj => ⟨es, hj, rfl, hall' es (List.mem_of_getElem? hj)⟩⟩
      · have := congrArg List.length hset
        have hsl : (setL cur.toList (k * m) vs).length = cur.toList.length := by
          have key : ∀ (vs : List Value) (cs : List Value) (o : Nat), (setL cs o vs).length = cs.length := by
            intro vs
            induction vs with
            | nil => intro _ _; rfl
            | cons v vs ih => intro cs o; rw [setL, ih, List.length_set]
          exact key _ _ _
        have hq : ((css.set k vs).flatten ++ rest).toArray.size = c * m := by simpa [← this, hsl] using hsz
        exact hq
      · rw [List.length_set]
        show List.take (css.length * m) _ = _
        rw [← hlen]
        simp

theorem Held.elsTo {M : Nat → Prop} {w0 : World} {rs : List Res} {w : World} {α : Type} {E : Enc α} {S : Nat → Prop} {ps qs : List (List Value × α)} (h : Held M w0 (rEls E S ps :: rs) w) (hp : ps = qs) : Held M w0 (rEls E S qs :: rs) w := hp ▸ h

theorem zip_drop_at {α : Type} {css : List (List Value)} {xs : List α} {k : Nat} {es : List Value} {x : α} {hk : k < xs.length} (h1 : css[k]? = some es) (h2 : x = xs[k]) : (css.zip xs).drop k = (es, x) :: (css.zip xs).drop (k + 1) := by
  have h3 := List.getElem?_eq_some_iff.1 h1
  have hz : k < (css.zip xs).length := by rw [List.length_zip]; have := h3.1; omega
  rw [List.drop_eq_getElem_cons hz, List.getElem_zip, h3.2, h2]

theorem Held.oSlice {M : Nat → Prop} {w0 : World} {rs : List Res} {w : World} {α : Type} {E : Enc α} {S : Nat → Prop} {es : List Value} {x : List α} (h : Held M w0 rs w) {i : Nat} (hi : rs[i]? = some (rO (eSl E) S es x)) : ∃ A c, es = [.slice A x.length c] := by
  obtain ⟨A, c, he, _⟩ := (h.get hi : (eSl E).O w S es x)
  exact ⟨A, c, he⟩

/-- A builder in block b, its own blocks in S, holding the bytes l. -/
def BldIn (T e : TypeId) (B b : Nat) (S : Nat → Prop) (l : List UInt8) (w : World) : Prop :=
  Lib.IsBuilderF T e B b (Lib.byteCells l) w ∧ S b ∧ ∀ p v g, w.heap[b]? = some (.cells #[p, v] T (0, 0)) → v.ownBlock = some g → S g

theorem BldIn.loc {T e : TypeId} {B b : Nat} {S : Nat → Prop} {l : List UInt8} {w w' : World} (hs : ∀ k, S k → w'.heap[k]? = w.heap[k]?) (h : BldIn T e B b S l w) : BldIn T e B b S l w' := by
  obtain ⟨h1, h2, h3⟩ := h
  have key : ∀ p, Lib.BuilderAtF T e B b p (Lib.byteCells l) w → Lib.BuilderAtF T e B b p (Lib.byteCells l) w' := by
    rintro p ⟨hB, v, hb, hown, hne⟩
    refine ⟨hB, v, (hs b h2).trans hb, ⟨hown.1, ?_⟩, hne⟩
    rcases hown.2 with hn | ⟨g, cap, cur, fz, rfl, hbg, hg, rest⟩
    · exact .inl hn
    · exact .inr ⟨g, cap, cur, fz, rfl, hbg, (hs g (h3 _ _ g hb (by simp [Value.ownBlock]))).trans hg, rest⟩
  refine ⟨?_, h2, fun p v g hb hv => h3 p v g ((hs b h2).symm.trans hb) hv⟩
  rcases h1 with h | h
  · exact .inl (key _ h)
  · exact .inr (key _ h)

def rBldT (T e : TypeId) (B b : Nat) (S : Nat → Prop) (l : List UInt8) : Res := ⟨S, BldIn T e B b S l, fun _ _ hs h => BldIn.loc hs h⟩

theorem BldIn.mk {T e : TypeId} {B b : Nat} {l : List UInt8} {w : World} (h : Lib.IsBuilderF T e B b (Lib.byteCells l) w) : BldIn T e B b (Iv B w.heap.size) l w := by
  have hb : B ≤ b ∧ b < w.heap.size := by
    rcases h with h | h
    · exact ⟨h.1, h.lt⟩
    · exact ⟨h.1, h.lt⟩
  refine ⟨h, hb, fun p v g hh hv => ?_⟩
  have key : ∀ q, Lib.BuilderAtF T e B b q (Lib.byteCells l) w → Iv B w.heap.size g := by
    rintro q ⟨_, v', hb', hown, _⟩
    rw [hh] at hb'
    simp only [Option.some.injEq, Obj.cells.injEq, and_true] at hb'
    have e2 : v = v' := by
      have := congrArg (fun a : Array Value => a[1]?) hb'
      simpa using this
    subst e2
    exact hown.lt g hv
  rcases h with h | h
  · exact key _ h
  · exact key _ h

theorem Held.bldCall {T e : TypeId} {w0 w w' : World} {b : Nat} {S : Nat → Prop} {l l' : List UInt8} (h : Held Nob w0 [rBldT T e w0.heap.size b S l] w) (hb : Below w0.heap.size w w') (hi : Lib.IsBuilderF T e w0.heap.size b (Lib.byteCells l') w') : ∃ S', Held Nob w0 [rBldT T e w0.heap.size b S' l'] w' := by
  refine ⟨Iv w0.heap.size w'.heap.size, ?_⟩
  have hb2 : Below w0.heap.size w0 w' := h.below.trans hb
  exact ⟨.of_below hb2, by intro r hr; obtain rfl := List.mem_singleton.1 hr; exact BldIn.mk hi, by intro r hr; obtain rfl := List.mem_singleton.1 hr; exact fun k hk => ⟨.inr hk.1, hk.2⟩, List.pairwise_singleton _ _⟩

theorem Held.toBld {T e : TypeId} {w0 w : World} {b : Nat} {rs : List Res} (h : Held Nob w0 (rBlk b T [.pointer none, .slice none 0 0] :: rs) w) : ∃ S, Held Nob w0 [rBldT T e w0.heap.size b S []] w := by
  have hB : Blk w b T #[.pointer none, .slice none 0 0] := h.ok _ List.mem_cons_self
  have hr := h.rng _ (List.mem_cons_self) b rfl
  have hle : w0.heap.size ≤ b := hr.1.resolve_left fun x => x.elim
  have hi : Lib.IsBuilderF T e w0.heap.size b (Lib.byteCells []) w := .inl ⟨hle, _, hB, by simpa [Lib.byteCells] using World.ownsRowF_nil w w0.heap.size e 1, by simp [Value.ownBlock]⟩
  refine ⟨Iv w0.heap.size w.heap.size, ⟨h.chg, ?_, ?_, List.pairwise_singleton _ _⟩⟩
  · intro r hr; obtain rfl := List.mem_singleton.1 hr; exact BldIn.mk hi
  · intro r hr; obtain rfl := List.mem_singleton.1 hr; exact fun k hk => ⟨.inr hk.1, hk.2⟩

theorem Held.isBld {T e : TypeId} {M : Nat → Prop} {w0 w : World} {B b : Nat} {S : Nat → Prop} {l : List UInt8} {rs : List Res} (h : Held M w0 (rBldT T e B b S l :: rs) w) : Lib.IsBuilderF T e B b (Lib.byteCells l) w := (h.ok _ List.mem_cons_self : BldIn T e B b S l w).1

theorem tv_2 : TV Try.prog 2 false [.int .i64 0] := by
  obtain ⟨i, h1, h2, h3⟩ := tv_parts (show (Try.prog.info? 2).map (fun i => (i.zero, i.size)) = some (some (.int .i64 0), 1) from by kernel_rfl)
  exact ⟨⟨_, Try.underlying2, rfl⟩, i, _, h1, h2, h3, rfl⟩

theorem tv_37 : TV Try.prog 37 false [.slice none 0 0] := by
  obtain ⟨i, h1, h2, h3⟩ := tv_parts (show (Try.prog.info? 37).map (fun i => (i.zero, i.size)) = some (some (.slice none 0 0), 1) from by kernel_rfl)
  exact ⟨⟨_, Try.underlying37, rfl⟩, i, _, h1, h2, h3, rfl⟩

theorem tv_48 : TV Try.prog 48 true [.int .i64 0, .int .i64 0, .int .i64 0, .slice none 0 0] := by
  obtain ⟨i, h1, h2, h3⟩ := tv_parts (show (Try.prog.info? 48).map (fun i => (i.zero, i.size)) = some (some (.agg #[.int .i64 0, .int .i64 0, .int .i64 0, .slice none 0 0]), 4) from by kernel_rfl)
  exact ⟨⟨_, Try.underlying48, rfl⟩, i, _, h1, h2, h3, rfl⟩

theorem tv_50 : TV Try.prog 50 false [.slice none 0 0] := by
  obtain ⟨i, h1, h2, h3⟩ := tv_parts (show (Try.prog.info? 50).map (fun i => (i.zero, i.size)) = some (some (.slice none 0 0), 1) from by kernel_rfl)
  exact ⟨⟨_, Try.underlying50, rfl⟩, i, _, h1, h2, h3, rfl⟩

theorem tv_53 : TV Try.prog 53 false [.slice none 0 0] := by
  obtain ⟨i, h1, h2, h3⟩ := tv_parts (show (Try.prog.info? 53).map (fun i => (i.zero, i.size)) = some (some (.slice none 0 0), 1) from by kernel_rfl)
  exact ⟨⟨_, Try.underlying53, rfl⟩, i, _, h1, h2, h3, rfl⟩

theorem tv_55 : TV Try.prog 55 true [.int .i64 0, .int .i64 0, .int .i64 0, .slice none 0 0] := by
  obtain ⟨i, h1, h2, h3⟩ := tv_parts (show (Try.prog.info? 55).map (fun i => (i.zero, i.size)) = some (some (.agg #[.int .i64 0, .int .i64 0, .int .i64 0, .slice none 0 0]), 4) from by kernel_rfl)
  exact ⟨⟨_, Try.underlying55, rfl⟩, i, _, h1, h2, h3, rfl⟩

theorem tv_104 : TV Try.prog 104 true [.int .i64 0, .slice none 0 0, .slice none 0 0, .slice none 0 0, .int .i64 0] := by
  obtain ⟨i, h1, h2, h3⟩ := tv_parts (show (Try.prog.info? 104).map (fun i => (i.zero, i.size)) = some (some (.agg #[.int .i64 0, .slice none 0 0, .slice none 0 0, .slice none 0 0, .int .i64 0]), 5) from by kernel_rfl)
  exact ⟨⟨_, Try.underlying104, rfl⟩, i, _, h1, h2, h3, rfl⟩

theorem tv_121 : TV Try.prog 121 false [.nilFunc] := by
  obtain ⟨i, h1, h2, h3⟩ := tv_parts (show (Try.prog.info? 121).map (fun i => (i.zero, i.size)) = some (some (.nilFunc), 1) from by kernel_rfl)
  exact ⟨⟨_, Try.underlying121, rfl⟩, i, _, h1, h2, h3, rfl⟩

theorem tv_133 : TV Try.prog 133 false [.map none] := by
  obtain ⟨i, h1, h2, h3⟩ := tv_parts (show (Try.prog.info? 133).map (fun i => (i.zero, i.size)) = some (some (.map none), 1) from by kernel_rfl)
  exact ⟨⟨_, Try.underlying133, rfl⟩, i, _, h1, h2, h3, rfl⟩

theorem tv_135 : TV Try.prog 135 true [.int .i64 0, .int .i64 0, .int .i64 0] := by
  obtain ⟨i, h1, h2, h3⟩ := tv_parts (show (Try.prog.info? 135).map (fun i => (i.zero, i.size)) = some (some (.agg #[.int .i64 0, .int .i64 0, .int .i64 0]), 3) from by kernel_rfl)
  exact ⟨⟨_, Try.underlying135, rfl⟩, i, _, h1, h2, h3, rfl⟩

theorem tv_137 : TV Try.prog 137 true [.int .i64 0, .int .i64 0, .int .i64 0, .int .i64 0] := by
  obtain ⟨i, h1, h2, h3⟩ := tv_parts (show (Try.prog.info? 137).map (fun i => (i.zero, i.size)) = some (some (.agg #[.int .i64 0, .int .i64 0, .int .i64 0, .int .i64 0]), 4) from by kernel_rfl)
  exact ⟨⟨_, Try.underlying137, rfl⟩, i, _, h1, h2, h3, rfl⟩

theorem ts_37 : TSl Try.prog 37 2 1 8 := by
  obtain ⟨i, h1, h2, h3, h4⟩ := ts_parts (show (Try.prog.info? 2).map (fun i => (i.zero, i.size, i.bytes)) = some (some (.int .i64 0), 1, 8) from by kernel_rfl)
  exact ⟨Try.underlying37, i, _, h1, h2, h3, h4, rfl⟩

theorem ts_50 : TSl Try.prog 50 37 1 24 := by
  obtain ⟨i, h1, h2, h3, h4⟩ := ts_parts (show (Try.prog.info? 37).map (fun i => (i.zero, i.size, i.bytes)) = some (some (.slice none 0 0), 1, 24) from by kernel_rfl)
  exact ⟨Try.underlying50, i, _, h1, h2, h3, h4, rfl⟩

theorem ts_53 : TSl Try.prog 53 104 5 88 := by
  obtain ⟨i, h1, h2, h3, h4⟩ := ts_parts (show (Try.prog.info? 104).map (fun i => (i.zero, i.size, i.bytes)) = some (some (.agg #[.int .i64 0, .slice none 0 0, .slice none 0 0, .slice none 0 0, .int .i64 0]), 5, 88) from by kernel_rfl)
  exact ⟨Try.underlying53, i, _, h1, h2, h3, h4, rfl⟩

theorem fa_55_0 : ∀ b o w, (Instr.fieldAt 55 (.pointer (some ⟨b, o, none⟩)) 0).run Try.prog w = .ok (.pointer (some ⟨b, o + 0, none⟩)) w := by
  obtain ⟨i, z, h1, _, h3, _⟩ := tv_2.info
  exact fun b o w => fieldAt_of (f := 0) Try.underlying55 rfl h1 (by rw [h3]; decide) b o w

theorem fa_55_1 : ∀ b o w, (Instr.fieldAt 55 (.pointer (some ⟨b, o, none⟩)) 1).run Try.prog w = .ok (.pointer (some ⟨b, o + 1, none⟩)) w := by
  obtain ⟨i, z, h1, _, h3, _⟩ := tv_2.info
  exact fun b o w => fieldAt_of (f := 1) Try.underlying55 rfl h1 (by rw [h3]; decide) b o w

theorem fa_55_2 : ∀ b o w, (Instr.fieldAt 55 (.pointer (some ⟨b, o, none⟩)) 2).run Try.prog w = .ok (.pointer (some ⟨b, o + 2, none⟩)) w := by
  obtain ⟨i, z, h1, _, h3, _⟩ := tv_2.info
  exact fun b o w => fieldAt_of (f := 2) Try.underlying55 rfl h1 (by rw [h3]; decide) b o w

theorem fa_55_3 : ∀ b o w, (Instr.fieldAt 55 (.pointer (some ⟨b, o, none⟩)) 3).run Try.prog w = .ok (.pointer (some ⟨b, o + 3, none⟩)) w := by
  obtain ⟨i, z, h1, _, h3, _⟩ := tv_53.info
  exact fun b o w => fieldAt_of (f := 3) Try.underlying55 rfl h1 (by rw [h3]; decide) b o w

theorem tb_55 : TB Try.prog 55 [.int .i64 0, .int .i64 0, .int .i64 0, .slice none 0 0] := by
  refine ⟨tv_55, _, #[(0, 1), (1, 1), (2, 1), (3, 1)], Try.underlying55, fun w => ?_, fun i hi => ?_⟩
  · obtain ⟨i2, z2, h2, _, s2, _⟩ := tv_2.info; simp only [List.length_cons, List.length_nil] at s2; obtain ⟨i53, z53, h53, _, s53, _⟩ := tv_53.info; simp only [List.length_cons, List.length_nil] at s53
    simp [sizeOf, typeInfo, h2, s2, h53, s53]
  · simp only [List.length_cons, List.length_nil] at hi
    match i, hi with
    | 0, _ => rfl
    | 1, _ => rfl
    | 2, _ => rfl
    | 3, _ => rfl

theorem fa_104_0 : ∀ b o w, (Instr.fieldAt 104 (.pointer (some ⟨b, o, none⟩)) 0).run Try.prog w = .ok (.pointer (some ⟨b, o + 0, none⟩)) w := by
  obtain ⟨i, z, h1, _, h3, _⟩ := tv_2.info
  exact fun b o w => fieldAt_of (f := 0) Try.underlying104 rfl h1 (by rw [h3]; decide) b o w

theorem fa_104_1 : ∀ b o w, (Instr.fieldAt 104 (.pointer (some ⟨b, o, none⟩)) 1).run Try.prog w = .ok (.pointer (some ⟨b, o + 1, none⟩)) w := by
  obtain ⟨i, z, h1, _, h3, _⟩ := tv_37.info
  exact fun b o w => fieldAt_of (f := 1) Try.underlying104 rfl h1 (by rw [h3]; decide) b o w

theorem fa_104_2 : ∀ b o w, (Instr.fieldAt 104 (.pointer (some ⟨b, o, none⟩)) 2).run Try.prog w = .ok (.pointer (some ⟨b, o + 2, none⟩)) w := by
  obtain ⟨i, z, h1, _, h3, _⟩ := tv_37.info
  exact fun b o w => fieldAt_of (f := 2) Try.underlying104 rfl h1 (by rw [h3]; decide) b o w

theorem fa_104_3 : ∀ b o w, (Instr.fieldAt 104 (.pointer (some ⟨b, o, none⟩)) 3).run Try.prog w = .ok (.pointer (some ⟨b, o + 3, none⟩)) w := by
  obtain ⟨i, z, h1, _, h3, _⟩ := tv_37.info
  exact fun b o w => fieldAt_of (f := 3) Try.underlying104 rfl h1 (by rw [h3]; decide) b o w

theorem fa_104_4 : ∀ b o w, (Instr.fieldAt 104 (.pointer (some ⟨b, o, none⟩)) 4).run Try.prog w = .ok (.pointer (some ⟨b, o + 4, none⟩)) w := by
  obtain ⟨i, z, h1, _, h3, _⟩ := tv_2.info
  exact fun b o w => fieldAt_of (f := 4) Try.underlying104 rfl h1 (by rw [h3]; decide) b o w

end Go.Proofs.Ythfihlfjphiihaa
