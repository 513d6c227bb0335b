/- What the proof of FnExactMultiText needs: contracts of the functions that it reaches, each once. -/
import Derived.Test.YtjnnkmflpbildaaDoorProg
import Derived.Test.YtjnnkmflpbildaaDoorQMem
import Derived.Test.YtjnnkmflpbildaaDoorQOpen
import Derived.Test.YtjnnkmflpbildaaDoorLMultiTexta
import Derived.WalkKit
import Derived.WalkSpells
import Derived.Below
import Derived.LoopTactic
import Derived.Outline
import Derived.Deep.QuietTactic
import Derived.BigQuiet
import Derived.Deep.LoopGhost
import Derived.Handy
import Derived.Lib.Hide
import Derived.Shelf.Abstract
import Derived.StillTailTactics
import Derived.OwnWalk
import Derived.Maps.AppendAt
import Derived.RegionTactic
import Derived.Deep.RegionHeld3
import Derived.IntWalk
import Derived.Deep.Upon
import Derived.Laws.OwnMore
import Derived.Maps.AppendAt
import Derived.Laws.BytesString
import Derived.Laws.Strings
import Derived.Lib.Bytes
import Derived.Lib.Strings
import Derived.Lib.FrozenHead
import Derived.Lib.RuneBytes
import Derived.Lib.LaidTab
import Derived.Laws.StructEq
import Derived.Lib.ItoaLen
import Derived.Lib.Join
import Derived.Shelf.Strconv.Itoa4
import Derived.Shelf.Strings.OnBuilder
import Derived.Shelf.Strings.BuilderK
import Derived.Shelf.Strings.BuilderRune
import Derived.Shelf.LaysM
import Derived.Ground.NamesProg
namespace Go.Proofs.YtjnnkmflpbildaaDoor
open Go.RowKit

set_option maxRecDepth 100000 in
set_option maxHeartbeats 2000000 in
theorem to_MultiRule (es : List Value) (x : tMultiRule) (w : World) (h : eMultiRule.R w (Old w) es x) (hcost : cost_MultiRule x ≤ 1048576) :
    Calls Tryd.prog 143 #[.agg es.toArray] w fun e w' => ∃ es', e = .returned (.agg es'.toArray) ∧ eMultiRule.O w' (Fr w w') es' x ∧ Below w.heap.size w w' := by
  obtain ⟨A1, c1, A2, c2, A3, c3, rfl, g0, g1, g2, g3, g4⟩ := shape_MultiRule h
  have HC : Hid (cost_MultiRule x ≤ 1048576) := hcost
  unfold cost_MultiRule at hcost
  have HB0 : Hid (Below w.heap.size w (((w.alloc (.cells #[.int .i64 x.1, .slice A1 x.2.1.length c1, .slice A2 x.2.2.1.length c2, .slice A3 x.2.2.2.1.length c3, .int .i64 x.2.2.2.2] 188)).alloc (.cells #[.int .i64 0, .slice none 0 0, .slice none 0 0, .slice none 0 0, .int .i64 0] 152)).alloc (.cells #[.int .i64 x.1, .slice none 0 0, .slice none 0 0, .slice none 0 0, .int .i64 0] 152))) := by show Below _ _ _; go_grown
  have hc1 : cost_L x.2.1 ≤ 1048576 := by omega
  have HC1 := Lib.hid hc1; clear hc1
  have K1 := Lib.hid g1; clear g1
  have hc2 : cost_L x.2.2.1 ≤ 1048576 := by omega
  have HC2 := Lib.hid hc2; clear hc2
  have K2 := Lib.hid g2; clear g2
  have hc3 : cost_L x.2.2.2.1 ≤ 1048576 := by omega
  have HC3 := Lib.hid hc3; clear hc3
  have K3 := Lib.hid g3; clear g3
  have G0 := Lib.hid g0; clear g0
  have G4 := Lib.hid g4; clear g4
  clear hcost h
  go_enter Tryd.func143, Tryd.ntmps143
  go_wp2_with fail
  refine (to_Int64S _ _ x.2.1 _ (by exact K1.out.on HB0.out) HC1.out).mono ?_
  rintro e w1 ⟨A1', c1', rfl, hs, hb⟩
  have HS1 := Lib.hid hs; clear hs
  have BL1 := Lib.hid (HB0.out.trans (hb.mono HB0.out.size))
  have HBW1 := Lib.hid hb; clear hb
  have HX := Lib.hid ((((Blk.new w 188 #[.int .i64 x.1, .slice A1 x.2.1.length c1, .slice A2 x.2.2.1.length c2, .slice A3 x.2.2.2.1.length c3, .int .i64 x.2.2.2.2]).alloc _).alloc _).on HBW1.out)
  have HR := Lib.hid (((Blk.new1 w _ 152 #[.int .i64 0, .slice none 0 0, .slice none 0 0, .slice none 0 0, .int .i64 0]).alloc _).on HBW1.out)
  have HO : Hid (Blk w1 (w.heap.size + 1 + 1) 152 #[.int .i64 x.1, .slice none 0 0, .slice none 0 0, .slice none 0 0, .int .i64 0]) := (Blk.new2 w _ _ 152 #[.int .i64 x.1, .slice none 0 0, .slice none 0 0, .slice none 0 0, .int .i64 0]).on HBW1.out
  have x0 : w1.cell? ⟨w.heap.size, 0, none⟩ = some (.int .i64 x.1) := HX.out.cell 0
  have o0 : w1.cell? ⟨w.heap.size + 1 + 1, 0, none⟩ = some (.int .i64 x.1) := HO.out.cell 0
  have r0 : w1.cell? ⟨w.heap.size + 1, 0, none⟩ = some (.int .i64 0) := HR.out.cell 0
  have p0 : w1.frozen? ⟨w.heap.size + 1 + 1, 0, none⟩ = false := HO.out.frozen 0
  have q0 : w1.frozen? ⟨w.heap.size + 1, 0, none⟩ = false := HR.out.frozen 0
  have x1 : w1.cell? ⟨w.heap.size, 1, none⟩ = some (.slice A1 x.2.1.length c1) := HX.out.cell 1
  have o1 : w1.cell? ⟨w.heap.size + 1 + 1, 1, none⟩ = some (.slice none 0 0) := HO.out.cell 1
  have r1 : w1.cell? ⟨w.heap.size + 1, 1, none⟩ = some (.slice none 0 0) := HR.out.cell 1
  have p1 : w1.frozen? ⟨w.heap.size + 1 + 1, 1, none⟩ = false := HO.out.frozen 1
  have q1 : w1.frozen? ⟨w.heap.size + 1, 1, none⟩ = false := HR.out.frozen 1
  have x2 : w1.cell? ⟨w.heap.size, 2, none⟩ = some (.slice A2 x.2.2.1.length c2) := HX.out.cell 2
  have o2 : w1.cell? ⟨w.heap.size + 1 + 1, 2, none⟩ = some (.slice none 0 0) := HO.out.cell 2
  have r2 : w1.cell? ⟨w.heap.size + 1, 2, none⟩ = some (.slice none 0 0) := HR.out.cell 2
  have p2 : w1.frozen? ⟨w.heap.size + 1 + 1, 2, none⟩ = false := HO.out.frozen 2
  have q2 : w1.frozen? ⟨w.heap.size + 1, 2, none⟩ = false := HR.out.frozen 2
  have x3 : w1.cell? ⟨w.heap.size, 3, none⟩ = some (.slice A3 x.2.2.2.1.length c3) := HX.out.cell 3
  have o3 : w1.cell? ⟨w.heap.size + 1 + 1, 3, none⟩ = some (.slice none 0 0) := HO.out.cell 3
  have r3 : w1.cell? ⟨w.heap.size + 1, 3, none⟩ = some (.slice none 0 0) := HR.out.cell 3
  have p3 : w1.frozen? ⟨w.heap.size + 1 + 1, 3, none⟩ = false := HO.out.frozen 3
  have q3 : w1.frozen? ⟨w.heap.size + 1, 3, none⟩ = false := HR.out.frozen 3
  have x4 : w1.cell? ⟨w.heap.size, 4, none⟩ = some (.int .i64 x.2.2.2.2) := HX.out.cell 4
  have o4 : w1.cell? ⟨w.heap.size + 1 + 1, 4, none⟩ = some (.int .i64 0) := HO.out.cell 4
  have r4 : w1.cell? ⟨w.heap.size + 1, 4, none⟩ = some (.int .i64 0) := HR.out.cell 4
  have p4 : w1.frozen? ⟨w.heap.size + 1 + 1, 4, none⟩ = false := HO.out.frozen 4
  have q4 : w1.frozen? ⟨w.heap.size + 1, 4, none⟩ = false := HR.out.frozen 4
  go_wp2_with fail
  refine (to_Int64S _ _ x.2.2.1 _ (by exact K2.out.on (BL1.out.setCell (p := ⟨w.heap.size + 1 + 1, 1, none⟩) (by show w.heap.size ≤ w.heap.size + 1 + 1; omega) _)) HC2.out).mono ?_
  rintro e w2 ⟨A2', c2', rfl, hs, hb⟩
  have HS2 := Lib.hid hs; clear hs
  have BL2 := Lib.hid ((BL1.out.setCell (p := ⟨w.heap.size + 1 + 1, 1, none⟩) (by show w.heap.size ≤ w.heap.size + 1 + 1; omega) _).trans (hb.mono (BL1.out.setCell (p := ⟨w.heap.size + 1 + 1, 1, none⟩) (by show w.heap.size ≤ w.heap.size + 1 + 1; omega) _).size))
  have HBW2 := Lib.hid hb; clear hb
  have HX' := Lib.hid ((HX.out.far (p := ⟨w.heap.size + 1 + 1, 1, none⟩) (by show w.heap.size ≠ w.heap.size + 1 + 1; omega) _).on HBW2.out); clear HX; have HX := HX'; clear HX'
  have HR' := Lib.hid ((HR.out.far (p := ⟨w.heap.size + 1 + 1, 1, none⟩) (by show w.heap.size + 1 ≠ w.heap.size + 1 + 1; omega) _).on HBW2.out); clear HR; have HR := HR'; clear HR'
  have HO' : Hid (Blk w2 (w.heap.size + 1 + 1) 152 #[.int .i64 x.1, .slice A1' x.2.1.length c1', .slice none 0 0, .slice none 0 0, .int .i64 0]) := (HO.out.set _ _).on HBW2.out; clear HO; have HO := HO'; clear HO'
  clear x0 o0 r0 p0 q0 x1 o1 r1 p1 q1 x2 o2 r2 p2 q2 x3 o3 r3 p3 q3 x4 o4 r4 p4 q4
  have x0 : w2.cell? ⟨w.heap.size, 0, none⟩ = some (.int .i64 x.1) := HX.out.cell 0
  have o0 : w2.cell? ⟨w.heap.size + 1 + 1, 0, none⟩ = some (.int .i64 x.1) := HO.out.cell 0
  have r0 : w2.cell? ⟨w.heap.size + 1, 0, none⟩ = some (.int .i64 0) := HR.out.cell 0
  have p0 : w2.frozen? ⟨w.heap.size + 1 + 1, 0, none⟩ = false := HO.out.frozen 0
  have q0 : w2.frozen? ⟨w.heap.size + 1, 0, none⟩ = false := HR.out.frozen 0
  have x1 : w2.cell? ⟨w.heap.size, 1, none⟩ = some (.slice A1 x.2.1.length c1) := HX.out.cell 1
  have o1 : w2.cell? ⟨w.heap.size + 1 + 1, 1, none⟩ = some (.slice A1' x.2.1.length c1') := HO.out.cell 1
  have r1 : w2.cell? ⟨w.heap.size + 1, 1, none⟩ = some (.slice none 0 0) := HR.out.cell 1
  have p1 : w2.frozen? ⟨w.heap.size + 1 + 1, 1, none⟩ = false := HO.out.frozen 1
  have q1 : w2.frozen? ⟨w.heap.size + 1, 1, none⟩ = false := HR.out.frozen 1
  have x2 : w2.cell? ⟨w.heap.size, 2, none⟩ = some (.slice A2 x.2.2.1.length c2) := HX.out.cell 2
  have o2 : w2.cell? ⟨w.heap.size + 1 + 1, 2, none⟩ = some (.slice none 0 0) := HO.out.cell 2
  have r2 : w2.cell? ⟨w.heap.size + 1, 2, none⟩ = some (.slice none 0 0) := HR.out.cell 2
  have p2 : w2.frozen? ⟨w.heap.size + 1 + 1, 2, none⟩ = false := HO.out.frozen 2
  have q2 : w2.frozen? ⟨w.heap.size + 1, 2, none⟩ = false := HR.out.frozen 2
  have x3 : w2.cell? ⟨w.heap.size, 3, none⟩ = some (.slice A3 x.2.2.2.1.length c3) := HX.out.cell 3
  have o3 : w2.cell? ⟨w.heap.size + 1 + 1, 3, none⟩ = some (.slice none 0 0) := HO.out.cell 3
  have r3 : w2.cell? ⟨w.heap.size + 1, 3, none⟩ = some (.slice none 0 0) := HR.out.cell 3
  have p3 : w2.frozen? ⟨w.heap.size + 1 + 1, 3, none⟩ = false := HO.out.frozen 3
  have q3 : w2.frozen? ⟨w.heap.size + 1, 3, none⟩ = false := HR.out.frozen 3
  have x4 : w2.cell? ⟨w.heap.size, 4, none⟩ = some (.int .i64 x.2.2.2.2) := HX.out.cell 4
  have o4 : w2.cell? ⟨w.heap.size + 1 + 1, 4, none⟩ = some (.int .i64 0) := HO.out.cell 4
  have r4 : w2.cell? ⟨w.heap.size + 1, 4, none⟩ = some (.int .i64 0) := HR.out.cell 4
  have p4 : w2.frozen? ⟨w.heap.size + 1 + 1, 4, none⟩ = false := HO.out.frozen 4
  have q4 : w2.frozen? ⟨w.heap.size + 1, 4, none⟩ = false := HR.out.frozen 4
  go_wp2_with fail
  refine (to_Int64S _ _ x.2.2.2.1 _ (by exact K3.out.on (BL2.out.setCell (p := ⟨w.heap.size + 1 + 1, 2, none⟩) (by show w.heap.size ≤ w.heap.size + 1 + 1; omega) _)) HC3.out).mono ?_
  rintro e w3 ⟨A3', c3', rfl, hs, hb⟩
  have HS3 := Lib.hid hs; clear hs
  have BL3 := Lib.hid ((BL2.out.setCell (p := ⟨w.heap.size + 1 + 1, 2, none⟩) (by show w.heap.size ≤ w.heap.size + 1 + 1; omega) _).trans (hb.mono (BL2.out.setCell (p := ⟨w.heap.size + 1 + 1, 2, none⟩) (by show w.heap.size ≤ w.heap.size + 1 + 1; omega) _).size))
  have HBW3 := Lib.hid hb; clear hb
  have HX' := Lib.hid ((HX.out.far (p := ⟨w.heap.size + 1 + 1, 2, none⟩) (by show w.heap.size ≠ w.heap.size + 1 + 1; omega) _).on HBW3.out); clear HX; have HX := HX'; clear HX'
  have HR' := Lib.hid ((HR.out.far (p := ⟨w.heap.size + 1 + 1, 2, none⟩) (by show w.heap.size + 1 ≠ w.heap.size + 1 + 1; omega) _).on HBW3.out); clear HR; have HR := HR'; clear HR'
  have HO' : Hid (Blk w3 (w.heap.size + 1 + 1) 152 #[.int .i64 x.1, .slice A1' x.2.1.length c1', .slice A2' x.2.2.1.length c2', .slice none 0 0, .int .i64 0]) := (HO.out.set _ _).on HBW3.out; clear HO; have HO := HO'; clear HO'
  clear x0 o0 r0 p0 q0 x1 o1 r1 p1 q1 x2 o2 r2 p2 q2 x3 o3 r3 p3 q3 x4 o4 r4 p4 q4
  have x0 : w3.cell? ⟨w.heap.size, 0, none⟩ = some (.int .i64 x.1) := HX.out.cell 0
  have o0 : w3.cell? ⟨w.heap.size + 1 + 1, 0, none⟩ = some (.int .i64 x.1) := HO.out.cell 0
  have r0 : w3.cell? ⟨w.heap.size + 1, 0, none⟩ = some (.int .i64 0) := HR.out.cell 0
  have p0 : w3.frozen? ⟨w.heap.size + 1 + 1, 0, none⟩ = false := HO.out.frozen 0
  have q0 : w3.frozen? ⟨w.heap.size + 1, 0, none⟩ = false := HR.out.frozen 0
  have x1 : w3.cell? ⟨w.heap.size, 1, none⟩ = some (.slice A1 x.2.1.length c1) := HX.out.cell 1
  have o1 : w3.cell? ⟨w.heap.size + 1 + 1, 1, none⟩ = some (.slice A1' x.2.1.length c1') := HO.out.cell 1
  have r1 : w3.cell? ⟨w.heap.size + 1, 1, none⟩ = some (.slice none 0 0) := HR.out.cell 1
  have p1 : w3.frozen? ⟨w.heap.size + 1 + 1, 1, none⟩ = false := HO.out.frozen 1
  have q1 : w3.frozen? ⟨w.heap.size + 1, 1, none⟩ = false := HR.out.frozen 1
  have x2 : w3.cell? ⟨w.heap.size, 2, none⟩ = some (.slice A2 x.2.2.1.length c2) := HX.out.cell 2
  have o2 : w3.cell? ⟨w.heap.size + 1 + 1, 2, none⟩ = some (.slice A2' x.2.2.1.length c2') := HO.out.cell 2
  have r2 : w3.cell? ⟨w.heap.size + 1, 2, none⟩ = some (.slice none 0 0) := HR.out.cell 2
  have p2 : w3.frozen? ⟨w.heap.size + 1 + 1, 2, none⟩ = false := HO.out.frozen 2
  have q2 : w3.frozen? ⟨w.heap.size + 1, 2, none⟩ = false := HR.out.frozen 2
  have x3 : w3.cell? ⟨w.heap.size, 3, none⟩ = some (.slice A3 x.2.2.2.1.length c3) := HX.out.cell 3
  have o3 : w3.cell? ⟨w.heap.size + 1 + 1, 3, none⟩ = some (.slice none 0 0) := HO.out.cell 3
  have r3 : w3.cell? ⟨w.heap.size + 1, 3, none⟩ = some (.slice none 0 0) := HR.out.cell 3
  have p3 : w3.frozen? ⟨w.heap.size + 1 + 1, 3, none⟩ = false := HO.out.frozen 3
  have q3 : w3.frozen? ⟨w.heap.size + 1, 3, none⟩ = false := HR.out.frozen 3
  have x4 : w3.cell? ⟨w.heap.size, 4, none⟩ = some (.int .i64 x.2.2.2.2) := HX.out.cell 4
  have o4 : w3.cell? ⟨w.heap.size + 1 + 1, 4, none⟩ = some (.int .i64 0) := HO.out.cell 4
  have r4 : w3.cell? ⟨w.heap.size + 1, 4, none⟩ = some (.int .i64 0) := HR.out.cell 4
  have p4 : w3.frozen? ⟨w.heap.size + 1 + 1, 4, none⟩ = false := HO.out.frozen 4
  have q4 : w3.frozen? ⟨w.heap.size + 1, 4, none⟩ = false := HR.out.frozen 4
  go_wp2
  have hE : Blk (((((((w3.setCell ⟨w.heap.size + 1 + 1, 3, none⟩ (.slice A3' x.2.2.2.1.length c3')).setCell ⟨w.heap.size + 1 + 1, 4, none⟩ (.int .i64 x.2.2.2.2)).setCell ⟨w.heap.size + 1, 0, none⟩ (.int .i64 x.1)).setCell ⟨w.heap.size + 1, 1, none⟩ (.slice A1' x.2.1.length c1')).setCell ⟨w.heap.size + 1, 2, none⟩ (.slice A2' x.2.2.1.length c2')).setCell ⟨w.heap.size + 1, 3, none⟩ (.slice A3' x.2.2.2.1.length c3')).setCell ⟨w.heap.size + 1, 4, none⟩ (.int .i64 x.2.2.2.2)) (w.heap.size + 1) 152 #[.int .i64 x.1, .slice A1' x.2.1.length c1', .slice A2' x.2.2.1.length c2', .slice A3' x.2.2.2.1.length c3', .int .i64 x.2.2.2.2] := (((((((HR.out.far (p := ⟨w.heap.size + 1 + 1, 3, none⟩) (by show w.heap.size + 1 ≠ w.heap.size + 1 + 1; omega) _).far (p := ⟨w.heap.size + 1 + 1, 4, none⟩) (by show w.heap.size + 1 ≠ w.heap.size + 1 + 1; omega) _).set _ _).set _ _).set _ _).set _ _).set _ _)
  have e0 : (((((((w3.setCell ⟨w.heap.size + 1 + 1, 3, none⟩ (.slice A3' x.2.2.2.1.length c3')).setCell ⟨w.heap.size + 1 + 1, 4, none⟩ (.int .i64 x.2.2.2.2)).setCell ⟨w.heap.size + 1, 0, none⟩ (.int .i64 x.1)).setCell ⟨w.heap.size + 1, 1, none⟩ (.slice A1' x.2.1.length c1')).setCell ⟨w.heap.size + 1, 2, none⟩ (.slice A2' x.2.2.1.length c2')).setCell ⟨w.heap.size + 1, 3, none⟩ (.slice A3' x.2.2.2.1.length c3')).setCell ⟨w.heap.size + 1, 4, none⟩ (.int .i64 x.2.2.2.2)).cell? ⟨w.heap.size + 1, 0, none⟩ = some (.int .i64 x.1) := hE.cell 0
  have e1 : (((((((w3.setCell ⟨w.heap.size + 1 + 1, 3, none⟩ (.slice A3' x.2.2.2.1.length c3')).setCell ⟨w.heap.size + 1 + 1, 4, none⟩ (.int .i64 x.2.2.2.2)).setCell ⟨w.heap.size + 1, 0, none⟩ (.int .i64 x.1)).setCell ⟨w.heap.size + 1, 1, none⟩ (.slice A1' x.2.1.length c1')).setCell ⟨w.heap.size + 1, 2, none⟩ (.slice A2' x.2.2.1.length c2')).setCell ⟨w.heap.size + 1, 3, none⟩ (.slice A3' x.2.2.2.1.length c3')).setCell ⟨w.heap.size + 1, 4, none⟩ (.int .i64 x.2.2.2.2)).cell? ⟨w.heap.size + 1, 1, none⟩ = some (.slice A1' x.2.1.length c1') := hE.cell 1
  have e2 : (((((((w3.setCell ⟨w.heap.size + 1 + 1, 3, none⟩ (.slice A3' x.2.2.2.1.length c3')).setCell ⟨w.heap.size + 1 + 1, 4, none⟩ (.int .i64 x.2.2.2.2)).setCell ⟨w.heap.size + 1, 0, none⟩ (.int .i64 x.1)).setCell ⟨w.heap.size + 1, 1, none⟩ (.slice A1' x.2.1.length c1')).setCell ⟨w.heap.size + 1, 2, none⟩ (.slice A2' x.2.2.1.length c2')).setCell ⟨w.heap.size + 1, 3, none⟩ (.slice A3' x.2.2.2.1.length c3')).setCell ⟨w.heap.size + 1, 4, none⟩ (.int .i64 x.2.2.2.2)).cell? ⟨w.heap.size + 1, 2, none⟩ = some (.slice A2' x.2.2.1.length c2') := hE.cell 2
  have e3 : (((((((w3.setCell ⟨w.heap.size + 1 + 1, 3, none⟩ (.slice A3' x.2.2.2.1.length c3')).setCell ⟨w.heap.size + 1 + 1, 4, none⟩ (.int .i64 x.2.2.2.2)).setCell ⟨w.heap.size + 1, 0, none⟩ (.int .i64 x.1)).setCell ⟨w.heap.size + 1, 1, none⟩ (.slice A1' x.2.1.length c1')).setCell ⟨w.heap.size + 1, 2, none⟩ (.slice A2' x.2.2.1.length c2')).setCell ⟨w.heap.size + 1, 3, none⟩ (.slice A3' x.2.2.2.1.length c3')).setCell ⟨w.heap.size + 1, 4, none⟩ (.int .i64 x.2.2.2.2)).cell? ⟨w.heap.size + 1, 3, none⟩ = some (.slice A3' x.2.2.2.1.length c3') := hE.cell 3
  have e4 : (((((((w3.setCell ⟨w.heap.size + 1 + 1, 3, none⟩ (.slice A3' x.2.2.2.1.length c3')).setCell ⟨w.heap.size + 1 + 1, 4, none⟩ (.int .i64 x.2.2.2.2)).setCell ⟨w.heap.size + 1, 0, none⟩ (.int .i64 x.1)).setCell ⟨w.heap.size + 1, 1, none⟩ (.slice A1' x.2.1.length c1')).setCell ⟨w.heap.size + 1, 2, none⟩ (.slice A2' x.2.2.1.length c2')).setCell ⟨w.heap.size + 1, 3, none⟩ (.slice A3' x.2.2.2.1.length c3')).setCell ⟨w.heap.size + 1, 4, none⟩ (.int .i64 x.2.2.2.2)).cell? ⟨w.heap.size + 1, 4, none⟩ = some (.int .i64 x.2.2.2.2) := hE.cell 4
  refine bodyPost_ret (v := .agg #[.int .i64 x.1, .slice A1' x.2.1.length c1', .slice A2' x.2.2.1.length c2', .slice A3' x.2.2.2.1.length c3', .int .i64 x.2.2.2.2]) (by simp [results, Tryd.results143, go_sem, e0, e1, e2, e3, e4]) rfl ?_
  have t1 : w.heap.size + 3 ≤ w1.heap.size := by have h1 := HBW1.out.size; simp only [World.size_alloc] at h1; omega
  have t2 : w.heap.size + 3 ≤ w2.heap.size := by have h1 := HBW1.out.size; simp only [World.size_alloc] at h1; have h2 := HBW2.out.size; simp only [World.size_setCell] at h2; omega
  have t3 : w.heap.size + 3 ≤ w3.heap.size := by have h1 := HBW1.out.size; simp only [World.size_alloc] at h1; have h2 := HBW3.out.size; simp only [World.size_setCell] at h2; omega
  refine ⟨[.int .i64 x.1, .slice A1' x.2.1.length c1', .slice A2' x.2.2.1.length c2', .slice A3' x.2.2.2.1.length c3', .int .i64 x.2.2.2.2], rfl, ?_, ?_⟩
  · have sE1 : So eInt (((((((w3.setCell ⟨w.heap.size + 1 + 1, 3, none⟩ (.slice A3' x.2.2.2.1.length c3')).setCell ⟨w.heap.size + 1 + 1, 4, none⟩ (.int .i64 x.2.2.2.2)).setCell ⟨w.heap.size + 1, 0, none⟩ (.int .i64 x.1)).setCell ⟨w.heap.size + 1, 1, none⟩ (.slice A1' x.2.1.length c1')).setCell ⟨w.heap.size + 1, 2, none⟩ (.slice A2' x.2.2.1.length c2')).setCell ⟨w.heap.size + 1, 3, none⟩ (.slice A3' x.2.2.2.1.length c3')).setCell ⟨w.heap.size + 1, 4, none⟩ (.int .i64 x.2.2.2.2)) (Iv w.heap.size w1.heap.size) _ _ x.2.1 := (HS1.out.keep (w' := (((((((w3.setCell ⟨w.heap.size + 1 + 1, 3, none⟩ (.slice A3' x.2.2.2.1.length c3')).setCell ⟨w.heap.size + 1 + 1, 4, none⟩ (.int .i64 x.2.2.2.2)).setCell ⟨w.heap.size + 1, 0, none⟩ (.int .i64 x.1)).setCell ⟨w.heap.size + 1, 1, none⟩ (.slice A1' x.2.1.length c1')).setCell ⟨w.heap.size + 1, 2, none⟩ (.slice A2' x.2.2.1.length c2')).setCell ⟨w.heap.size + 1, 3, none⟩ (.slice A3' x.2.2.2.1.length c3')).setCell ⟨w.heap.size + 1, 4, none⟩ (.int .i64 x.2.2.2.2))) fun b hb => ((((((((((((Lat.refl (w.heap.size + 3) w1).set (p := ⟨w.heap.size + 1 + 1, 1, none⟩) (by show w.heap.size + 1 + 1 < _; omega)).below HBW2.out).set (p := ⟨w.heap.size + 1 + 1, 2, none⟩) (by show w.heap.size + 1 + 1 < _; omega)).below HBW3.out).set (p := ⟨w.heap.size + 1 + 1, 3, none⟩) (by show w.heap.size + 1 + 1 < _; omega)).set (p := ⟨w.heap.size + 1 + 1, 4, none⟩) (by show w.heap.size + 1 + 1 < _; omega)).set (p := ⟨w.heap.size + 1, 0, none⟩) (by show w.heap.size + 1 < _; omega)).set (p := ⟨w.heap.size + 1, 1, none⟩) (by show w.heap.size + 1 < _; omega)).set (p := ⟨w.heap.size + 1, 2, none⟩) (by show w.heap.size + 1 < _; omega)).set (p := ⟨w.heap.size + 1, 3, none⟩) (by show w.heap.size + 1 < _; omega)).set (p := ⟨w.heap.size + 1, 4, none⟩) (by show w.heap.size + 1 < _; omega)).block b (by have h1 := hb.1; simp only [World.size_alloc, World.size_setCell] at h1; omega) hb.2).more (Iv.mono (by simp only [World.size_alloc]; omega) (by omega))
    have u2 : w1.heap.size ≤ w2.heap.size := by have := HBW2.out.size; simp only [World.size_setCell] at this; omega
    have sE2 : So eInt (((((((w3.setCell ⟨w.heap.size + 1 + 1, 3, none⟩ (.slice A3' x.2.2.2.1.length c3')).setCell ⟨w.heap.size + 1 + 1, 4, none⟩ (.int .i64 x.2.2.2.2)).setCell ⟨w.heap.size + 1, 0, none⟩ (.int .i64 x.1)).setCell ⟨w.heap.size + 1, 1, none⟩ (.slice A1' x.2.1.length c1')).setCell ⟨w.heap.size + 1, 2, none⟩ (.slice A2' x.2.2.1.length c2')).setCell ⟨w.heap.size + 1, 3, none⟩ (.slice A3' x.2.2.2.1.length c3')).setCell ⟨w.heap.size + 1, 4, none⟩ (.int .i64 x.2.2.2.2)) (Iv w1.heap.size w2.heap.size) _ _ x.2.2.1 := (HS2.out.keep (w' := (((((((w3.setCell ⟨w.heap.size + 1 + 1, 3, none⟩ (.slice A3' x.2.2.2.1.length c3')).setCell ⟨w.heap.size + 1 + 1, 4, none⟩ (.int .i64 x.2.2.2.2)).setCell ⟨w.heap.size + 1, 0, none⟩ (.int .i64 x.1)).setCell ⟨w.heap.size + 1, 1, none⟩ (.slice A1' x.2.1.length c1')).setCell ⟨w.heap.size + 1, 2, none⟩ (.slice A2' x.2.2.1.length c2')).setCell ⟨w.heap.size + 1, 3, none⟩ (.slice A3' x.2.2.2.1.length c3')).setCell ⟨w.heap.size + 1, 4, none⟩ (.int .i64 x.2.2.2.2))) fun b hb => ((((((((((Lat.refl (w.heap.size + 3) w2).set (p := ⟨w.heap.size + 1 + 1, 2, none⟩) (by show w.heap.size + 1 + 1 < _; omega)).below HBW3.out).set (p := ⟨w.heap.size + 1 + 1, 3, none⟩) (by show w.heap.size + 1 + 1 < _; omega)).set (p := ⟨w.heap.size + 1 + 1, 4, none⟩) (by show w.heap.size + 1 + 1 < _; omega)).set (p := ⟨w.heap.size + 1, 0, none⟩) (by show w.heap.size + 1 < _; omega)).set (p := ⟨w.heap.size + 1, 1, none⟩) (by show w.heap.size + 1 < _; omega)).set (p := ⟨w.heap.size + 1, 2, none⟩) (by show w.heap.size + 1 < _; omega)).set (p := ⟨w.heap.size + 1, 3, none⟩) (by show w.heap.size + 1 < _; omega)).set (p := ⟨w.heap.size + 1, 4, none⟩) (by show w.heap.size + 1 < _; omega)).block b (by have h1 := hb.1; simp only [World.size_alloc, World.size_setCell] at h1; omega) hb.2).more (Iv.mono (by simp only [World.size_setCell]; omega) (by omega))
    have u3 : w2.heap.size ≤ w3.heap.size := by have := HBW3.out.size; simp only [World.size_setCell] at this; omega
    have sE3 : So eInt (((((((w3.setCell ⟨w.heap.size + 1 + 1, 3, none⟩ (.slice A3' x.2.2.2.1.length c3')).setCell ⟨w.heap.size + 1 + 1, 4, none⟩ (.int .i64 x.2.2.2.2)).setCell ⟨w.heap.size + 1, 0, none⟩ (.int .i64 x.1)).setCell ⟨w.heap.size + 1, 1, none⟩ (.slice A1' x.2.1.length c1')).setCell ⟨w.heap.size + 1, 2, none⟩ (.slice A2' x.2.2.1.length c2')).setCell ⟨w.heap.size + 1, 3, none⟩ (.slice A3' x.2.2.2.1.length c3')).setCell ⟨w.heap.size + 1, 4, none⟩ (.int .i64 x.2.2.2.2)) (Iv w2.heap.size w3.heap.size) _ _ x.2.2.2.1 := (HS3.out.keep (w' := (((((((w3.setCell ⟨w.heap.size + 1 + 1, 3, none⟩ (.slice A3' x.2.2.2.1.length c3')).setCell ⟨w.heap.size + 1 + 1, 4, none⟩ (.int .i64 x.2.2.2.2)).setCell ⟨w.heap.size + 1, 0, none⟩ (.int .i64 x.1)).setCell ⟨w.heap.size + 1, 1, none⟩ (.slice A1' x.2.1.length c1')).setCell ⟨w.heap.size + 1, 2, none⟩ (.slice A2' x.2.2.1.length c2')).setCell ⟨w.heap.size + 1, 3, none⟩ (.slice A3' x.2.2.2.1.length c3')).setCell ⟨w.heap.size + 1, 4, none⟩ (.int .i64 x.2.2.2.2))) fun b hb => ((((((((Lat.refl (w.heap.size + 3) w3).set (p := ⟨w.heap.size + 1 + 1, 3, none⟩) (by show w.heap.size + 1 + 1 < _; omega)).set (p := ⟨w.heap.size + 1 + 1, 4, none⟩) (by show w.heap.size + 1 + 1 < _; omega)).set (p := ⟨w.heap.size + 1, 0, none⟩) (by show w.heap.size + 1 < _; omega)).set (p := ⟨w.heap.size + 1, 1, none⟩) (by show w.heap.size + 1 < _; omega)).set (p := ⟨w.heap.size + 1, 2, none⟩) (by show w.heap.size + 1 < _; omega)).set (p := ⟨w.heap.size + 1, 3, none⟩) (by show w.heap.size + 1 < _; omega)).set (p := ⟨w.heap.size + 1, 4, none⟩) (by show w.heap.size + 1 < _; omega)).block b (by have h1 := hb.1; simp only [World.size_alloc, World.size_setCell] at h1; omega) hb.2).more (Iv.mono (by simp only [World.size_setCell]; omega) (by omega))
    exact (oPrI G0.out (oPr (l := w.heap.size) (m := w1.heap.size) (oSl sE1) (oPr (l := w1.heap.size) (m := w2.heap.size) (oSl sE2) (oPr (l := w2.heap.size) (m := w3.heap.size) (oSl sE3) (oI G4.out) (by omega) (by first | omega | (simp only [World.size_setCell]; omega))) (by omega) (by first | omega | (simp only [World.size_setCell]; omega))) (by omega) (by first | omega | (simp only [World.size_setCell]; omega))))
  · exact (((((((BL3.out.setCell (p := ⟨w.heap.size + 1 + 1, 3, none⟩) (by show w.heap.size ≤ w.heap.size + 1 + 1; omega) _).setCell (p := ⟨w.heap.size + 1 + 1, 4, none⟩) (by show w.heap.size ≤ w.heap.size + 1 + 1; omega) _).setCell (p := ⟨w.heap.size + 1, 0, none⟩) (by show w.heap.size ≤ w.heap.size + 1; omega) _).setCell (p := ⟨w.heap.size + 1, 1, none⟩) (by show w.heap.size ≤ w.heap.size + 1; omega) _).setCell (p := ⟨w.heap.size + 1, 2, none⟩) (by show w.heap.size ≤ w.heap.size + 1; omega) _).setCell (p := ⟨w.heap.size + 1, 3, none⟩) (by show w.heap.size ≤ w.heap.size + 1; omega) _).setCell (p := ⟨w.heap.size + 1, 4, none⟩) (by show w.heap.size ≤ w.heap.size + 1; omega) _)

set_option maxHeartbeats 1000000 in
theorem to_MultiRuleS (A : Option Addr) (c : Nat) (xs : List tMultiRule) (w : World) (h : Sl eMultiRule w (Old w) A c xs) (hsm : cost_SMultiRule xs ≤ 1048576) :
    Calls Tryd.prog 99 #[.slice A xs.length c] w fun e w' => ∃ A' c', e = .returned (.slice A' xs.length c') ∧ So eMultiRule w' (Fr w w') A' c' xs ∧ Below w.heap.size w w' := by
  obtain ⟨i0, hi0, hz0, hz1, hz2⟩ := info_parts info_impl_MultiRule
  have hlen := h.len
  have hsl : xs.length ≤ 1048576 := by have : cost_SMultiRule xs = costL cost_MultiRule xs := rfl; unfold costL at this; omega
  have HCO := Lib.hid hsm; clear hsm
  have H := Lib.hid h; clear h
  go_enter Tryd.func99, Tryd.ntmps99
  go_wp2_with (at_make; refine wpList_make_full _ rfl _ _ 90 rfl w.heap.size 152 i0 _ 5 Tryd.underlying90 hi0 hz0 hz1 _ _ _ _ xs.length rfl rfl rfl rfl (by rw [hz2]; omega) (by unfold maxLen; omega) (Nat.le_refl _) ?_)
  intro w1 hown hgrow
  obtain ⟨cur, hB, hs, ht, hn1, hn2⟩ := Blk.of_own hown
  have HB := Lib.hid hB; clear hB
  have HS : Hid (cur.size = xs.length * 5) := by show _ = _; omega
  have hbel : Below w.heap.size w w1 := (Below.refl _ _).grown hgrow (Nat.le_refl _) (by simp)
  have HL := Lib.hid hbel; clear hbel
  clear hs ht hn1 hn2 hgrow hown hi0 hz0 hz1 hz2
  go_wp2_with fail
  go_loopw [4] (fun s4 wr => ∃ (k : Nat) (cur : Array Value), k ≤ xs.length ∧ s4 = .int .i64 k ∧ Hid (Below w.heap.size w wr) ∧ Hid (Blk wr w.heap.size 152 cur) ∧ Hid (cur.size = xs.length * 5) ∧ Hid (Filled eMultiRule wr w.heap.size (fun b => w.heap.size ≤ b) cur k xs)) (fun s4 _ => xs.length - (intOf s4).toNat)
  case atStart => exact ⟨0, cur, Nat.zero_le _, rfl, HL, HB, HS, Filled.zero⟩
  case round =>
    clear HB HS HL
    obtain ⟨k, cur, hk, rfl, HL, HB, HS, HF⟩ := hrel
    by_cases hlt : k < xs.length
    · have hltz : (k : Int) < (xs.length : Int) := by omega
      obtain ⟨b, off, es, rfl, hb, hR, hc⟩ := H.out.at hlt
      have HX : Hid (xs[k]? = some xs[k]) := List.getElem?_eq_getElem hlt
      have HR := Lib.hid (eMultiRule.on hR HL.out)
      have HCS : Hid (cost_MultiRule xs[k] ≤ 1048576) := by have h1 := cost_mem cost_MultiRule xs k hlt; have h2 : cost_SMultiRule xs = costL cost_MultiRule xs := rfl; have := HCO.out; show _ ≤ _; omega
      obtain ⟨Aq1, cq1, Aq2, cq2, Aq3, cq3, rfl, gq0, gq1, gq2, gq3, gq4⟩ := shape_MultiRule hR
      have d0 : wr.cell? ⟨b, off + k * 5, none⟩ = some (.int .i64 xs[k].1) := (below_olds HL.out _ hb).trans (hc 0 _ rfl)
      have d1 : wr.cell? ⟨b, off + k * 5 + 1, none⟩ = some (.slice Aq1 xs[k].2.1.length cq1) := (below_olds HL.out _ hb).trans (hc 1 _ rfl)
      have d2 : wr.cell? ⟨b, off + k * 5 + 2, none⟩ = some (.slice Aq2 xs[k].2.2.1.length cq2) := (below_olds HL.out _ hb).trans (hc 2 _ rfl)
      have d3 : wr.cell? ⟨b, off + k * 5 + 3, none⟩ = some (.slice Aq3 xs[k].2.2.2.1.length cq3) := (below_olds HL.out _ hb).trans (hc 3 _ rfl)
      have d4 : wr.cell? ⟨b, off + k * 5 + 4, none⟩ = some (.int .i64 xs[k].2.2.2.2) := (below_olds HL.out _ hb).trans (hc 4 _ rfl)
      clear hc gq0 gq1 gq2 gq3 gq4
      try clear hR
      obtain ⟨v0, hv0⟩ : ∃ v, cur[k * 5]? = some v := get_some (by have := HS.out; omega)
      obtain ⟨v1, hv1⟩ : ∃ v, cur[k * 5 + 1]? = some v := get_some (by have := HS.out; omega)
      obtain ⟨v2, hv2⟩ : ∃ v, cur[k * 5 + 2]? = some v := get_some (by have := HS.out; omega)
      obtain ⟨v3, hv3⟩ : ∃ v, cur[k * 5 + 3]? = some v := get_some (by have := HS.out; omega)
      obtain ⟨v4, hv4⟩ : ∃ v, cur[k * 5 + 4]? = some v := get_some (by have := HS.out; omega)
      have HV0 := Lib.hid hv0; clear hv0
      have HV1 := Lib.hid hv1; clear hv1
      have HV2 := Lib.hid hv2; clear hv2
      have HV3 := Lib.hid hv3; clear hv3
      have HV4 := Lib.hid hv4; clear hv4
      generalize xs[k] = y at d0 d1 d2 d3 d4 HX HR HCS
      go_wp2_with fail
      refine (to_MultiRule _ y _ HR.out HCS.out).mono ?_
      rintro e w2 ⟨es2, rfl, ho2, hb2⟩
      have hR2 := eMultiRule.read ho2
      have HO2 := Lib.hid ho2; clear ho2
      obtain ⟨Ar1, cr1, Ar2, cr2, Ar3, cr3, rfl, gr0, gr1, gr2, gr3, gr4⟩ := shape_MultiRule hR2
      clear gr0 gr1 gr2 gr3 gr4
      try clear hR2
      have hB2 := HB.out.on hb2
      have e0 : w2.cell? ⟨w.heap.size, k * 5, none⟩ = some v0 := (hB2.cell _).trans HV0.out
      have e1 : w2.cell? ⟨w.heap.size, k * 5 + 1, none⟩ = some v1 := (hB2.cell _).trans HV1.out
      have e2 : w2.cell? ⟨w.heap.size, k * 5 + 2, none⟩ = some v2 := (hB2.cell _).trans HV2.out
      have e3 : w2.cell? ⟨w.heap.size, k * 5 + 3, none⟩ = some v3 := (hB2.cell _).trans HV3.out
      have e4 : w2.cell? ⟨w.heap.size, k * 5 + 4, none⟩ = some v4 := (hB2.cell _).trans HV4.out
      have f0 := hB2.frozen (k * 5)
      have f1 := hB2.frozen (k * 5 + 1)
      have f2 := hB2.frozen (k * 5 + 2)
      have f3 := hB2.frozen (k * 5 + 3)
      have f4 := hB2.frozen (k * 5 + 4)
      have HB2 := Lib.hid hB2; clear hB2
      have HL2 := Lib.hid hb2; clear hb2
      go_wp2
      go_roundw
      case rel =>
        have hL := HL.out
        have hL2 := HL2.out
        have hbs : ∀ b, b ≠ w.heap.size → ∀ W : World, (∀ b, b ≠ w.heap.size → W.heap[b]? = w2.heap[b]?) → W.heap[b]? = w2.heap[b]? := fun b hb W h => h b hb
        have hW : ∀ b, b ≠ w.heap.size → (((((w2.setCell ⟨w.heap.size, k * 5, none⟩ (.int .i64 y.1)).setCell ⟨w.heap.size, k * 5 + 1, none⟩ (.slice Ar1 y.2.1.length cr1)).setCell ⟨w.heap.size, k * 5 + 2, none⟩ (.slice Ar2 y.2.2.1.length cr2)).setCell ⟨w.heap.size, k * 5 + 3, none⟩ (.slice Ar3 y.2.2.2.1.length cr3)).setCell ⟨w.heap.size, k * 5 + 4, none⟩ (.int .i64 y.2.2.2.2)).heap[b]? = w2.heap[b]? := fun b hb => by
          rw [Below.heap_setCell _ _ _ _ (by exact hb), Below.heap_setCell _ _ _ _ (by exact hb), Below.heap_setCell _ _ _ _ (by exact hb), Below.heap_setCell _ _ _ _ (by exact hb), Below.heap_setCell _ _ _ _ (by exact hb)]
        have hsz : (((((w2.setCell ⟨w.heap.size, k * 5, none⟩ (.int .i64 y.1)).setCell ⟨w.heap.size, k * 5 + 1, none⟩ (.slice Ar1 y.2.1.length cr1)).setCell ⟨w.heap.size, k * 5 + 2, none⟩ (.slice Ar2 y.2.2.1.length cr2)).setCell ⟨w.heap.size, k * 5 + 3, none⟩ (.slice Ar3 y.2.2.2.1.length cr3)).setCell ⟨w.heap.size, k * 5 + 4, none⟩ (.int .i64 y.2.2.2.2)).heap.size = w2.heap.size := by simp [World.setCell]
        refine ⟨k + 1, setAll cur (k * 5) [.int .i64 y.1, .slice Ar1 y.2.1.length cr1, .slice Ar2 y.2.2.1.length cr2, .slice Ar3 y.2.2.2.1.length cr3, .int .i64 y.2.2.2.2], by omega, by go_num, ((((((hL.trans (hL2.mono hL.size)).setCell (Nat.le_refl _) _).setCell (Nat.le_refl _) _).setCell (Nat.le_refl _) _).setCell (Nat.le_refl _) _).setCell (Nat.le_refl _) _), (((((HB2.out.set _ _).set _ _).set _ _).set _ _).set _ _), (size_setAll _ _ _).trans HS.out, ?_⟩
        have hstep := (HF.out).step (w' := ((((w2.setCell ⟨w.heap.size, k * 5, none⟩ (.int .i64 y.1)).setCell ⟨w.heap.size, k * 5 + 1, none⟩ (.slice Ar1 y.2.1.length cr1)).setCell ⟨w.heap.size, k * 5 + 2, none⟩ (.slice Ar2 y.2.2.1.length cr2)).setCell ⟨w.heap.size, k * 5 + 3, none⟩ (.slice Ar3 y.2.2.2.1.length cr3)).setCell ⟨w.heap.size, k * 5 + 4, none⟩ (.int .i64 y.2.2.2.2)) (T0 := Fr wr w2) (es := [.int .i64 y.1, .slice Ar1 y.2.1.length cr1, .slice Ar2 y.2.2.1.length cr2, .slice Ar3 y.2.2.2.1.length cr3, .int .i64 y.2.2.2.2]) (fun b hb hlt => (hW b hb).trans (hL2.block b hlt)) (by rw [hsz]; exact hL2.size) HX.out
          (eMultiRule.okeep HO2.out fun b hb => hW b (fun e => by have := HB.out.lt; have := hb.1; omega)) (fun b hb => ⟨Nat.le_trans hL.size hb.1, fun e => by have := HB.out.lt; have := hb.1; omega, hb.1, by rw [hsz]; exact hb.2⟩) (by have := HS.out; show (k + 1) * 5 ≤ _; omega)
        exact hstep
      case measure => simp [intOf]; omega
    · have hltz : ¬ (k : Int) < (xs.length : Int) := by omega
      obtain rfl : k = xs.length := by omega
      go_wp2
      go_ret
      exact ⟨_, _, rfl, HF.out.soFr HB.out (Nat.le_refl _) (by unfold maxLen; omega), HL.out⟩

set_option maxRecDepth 100000 in
set_option maxHeartbeats 2000000 in
theorem to_Multi (es : List Value) (x : tMulti) (w : World) (h : eMulti.R w (Old w) es x) (hcost : cost_Multi x ≤ 1048576) :
    Calls Tryd.prog 49 #[.agg es.toArray] w fun e w' => ∃ es', e = .returned (.agg es'.toArray) ∧ eMulti.O w' (Fr w w') es' x ∧ Below w.heap.size w w' := by
  obtain ⟨A3, c3, rfl, g0, g1, g2, g3⟩ := shape_Multi h
  have HC : Hid (cost_Multi x ≤ 1048576) := hcost
  unfold cost_Multi at hcost
  have HB0 : Hid (Below w.heap.size w (((w.alloc (.cells #[.int .i64 x.1, .int .i64 x.2.1, .int .i64 x.2.2.1, .slice A3 x.2.2.2.length c3] 87)).alloc (.cells #[.int .i64 0, .int .i64 0, .int .i64 0, .slice none 0 0] 92)).alloc (.cells #[.int .i64 x.1, .int .i64 x.2.1, .int .i64 x.2.2.1, .slice none 0 0] 92))) := by show Below _ _ _; go_grown
  have hc3 : cost_SMultiRule x.2.2.2 ≤ 1048576 := by omega
  have HC3 := Lib.hid hc3; clear hc3
  have K3 := Lib.hid g3; clear g3
  have G0 := Lib.hid g0; clear g0
  have G1 := Lib.hid g1; clear g1
  have G2 := Lib.hid g2; clear g2
  clear hcost h
  go_enter Tryd.func49, Tryd.ntmps49
  go_wp2_with fail
  refine (to_MultiRuleS _ _ x.2.2.2 _ (by exact K3.out.on HB0.out) HC3.out).mono ?_
  rintro e w1 ⟨A3', c3', rfl, hs, hb⟩
  have HS1 := Lib.hid hs; clear hs
  have BL1 := Lib.hid (HB0.out.trans (hb.mono HB0.out.size))
  have HBW1 := Lib.hid hb; clear hb
  have HX := Lib.hid ((((Blk.new w 87 #[.int .i64 x.1, .int .i64 x.2.1, .int .i64 x.2.2.1, .slice A3 x.2.2.2.length c3]).alloc _).alloc _).on HBW1.out)
  have HR := Lib.hid (((Blk.new1 w _ 92 #[.int .i64 0, .int .i64 0, .int .i64 0, .slice none 0 0]).alloc _).on HBW1.out)
  have HO : Hid (Blk w1 (w.heap.size + 1 + 1) 92 #[.int .i64 x.1, .int .i64 x.2.1, .int .i64 x.2.2.1, .slice none 0 0]) := (Blk.new2 w _ _ 92 #[.int .i64 x.1, .int .i64 x.2.1, .int .i64 x.2.2.1, .slice none 0 0]).on HBW1.out
  have x0 : w1.cell? ⟨w.heap.size, 0, none⟩ = some (.int .i64 x.1) := HX.out.cell 0
  have o0 : w1.cell? ⟨w.heap.size + 1 + 1, 0, none⟩ = some (.int .i64 x.1) := HO.out.cell 0
  have r0 : w1.cell? ⟨w.heap.size + 1, 0, none⟩ = some (.int .i64 0) := HR.out.cell 0
  have p0 : w1.frozen? ⟨w.heap.size + 1 + 1, 0, none⟩ = false := HO.out.frozen 0
  have q0 : w1.frozen? ⟨w.heap.size + 1, 0, none⟩ = false := HR.out.frozen 0
  have x1 : w1.cell? ⟨w.heap.size, 1, none⟩ = some (.int .i64 x.2.1) := HX.out.cell 1
  have o1 : w1.cell? ⟨w.heap.size + 1 + 1, 1, none⟩ = some (.int .i64 x.2.1) := HO.out.cell 1
  have r1 : w1.cell? ⟨w.heap.size + 1, 1, none⟩ = some (.int .i64 0) := HR.out.cell 1
  have p1 : w1.frozen? ⟨w.heap.size + 1 + 1, 1, none⟩ = false := HO.out.frozen 1
  have q1 : w1.frozen? ⟨w.heap.size + 1, 1, none⟩ = false := HR.out.frozen 1
  have x2 : w1.cell? ⟨w.heap.size, 2, none⟩ = some (.int .i64 x.2.2.1) := HX.out.cell 2
  have o2 : w1.cell? ⟨w.heap.size + 1 + 1, 2, none⟩ = some (.int .i64 x.2.2.1) := HO.out.cell 2
  have r2 : w1.cell? ⟨w.heap.size + 1, 2, none⟩ = some (.int .i64 0) := HR.out.cell 2
  have p2 : w1.frozen? ⟨w.heap.size + 1 + 1, 2, none⟩ = false := HO.out.frozen 2
  have q2 : w1.frozen? ⟨w.heap.size + 1, 2, none⟩ = false := HR.out.frozen 2
  have x3 : w1.cell? ⟨w.heap.size, 3, none⟩ = some (.slice A3 x.2.2.2.length c3) := HX.out.cell 3
  have o3 : w1.cell? ⟨w.heap.size + 1 + 1, 3, none⟩ = some (.slice none 0 0) := HO.out.cell 3
  have r3 : w1.cell? ⟨w.heap.size + 1, 3, none⟩ = some (.slice none 0 0) := HR.out.cell 3
  have p3 : w1.frozen? ⟨w.heap.size + 1 + 1, 3, none⟩ = false := HO.out.frozen 3
  have q3 : w1.frozen? ⟨w.heap.size + 1, 3, none⟩ = false := HR.out.frozen 3
  go_wp2
  have hE : Blk (((((w1.setCell ⟨w.heap.size + 1 + 1, 3, none⟩ (.slice A3' x.2.2.2.length c3')).setCell ⟨w.heap.size + 1, 0, none⟩ (.int .i64 x.1)).setCell ⟨w.heap.size + 1, 1, none⟩ (.int .i64 x.2.1)).setCell ⟨w.heap.size + 1, 2, none⟩ (.int .i64 x.2.2.1)).setCell ⟨w.heap.size + 1, 3, none⟩ (.slice A3' x.2.2.2.length c3')) (w.heap.size + 1) 92 #[.int .i64 x.1, .int .i64 x.2.1, .int .i64 x.2.2.1, .slice A3' x.2.2.2.length c3'] := (((((HR.out.far (p := ⟨w.heap.size + 1 + 1, 3, none⟩) (by show w.heap.size + 1 ≠ w.heap.size + 1 + 1; omega) _).set _ _).set _ _).set _ _).set _ _)
  have e0 : (((((w1.setCell ⟨w.heap.size + 1 + 1, 3, none⟩ (.slice A3' x.2.2.2.length c3')).setCell ⟨w.heap.size + 1, 0, none⟩ (.int .i64 x.1)).setCell ⟨w.heap.size + 1, 1, none⟩ (.int .i64 x.2.1)).setCell ⟨w.heap.size + 1, 2, none⟩ (.int .i64 x.2.2.1)).setCell ⟨w.heap.size + 1, 3, none⟩ (.slice A3' x.2.2.2.length c3')).cell? ⟨w.heap.size + 1, 0, none⟩ = some (.int .i64 x.1) := hE.cell 0
  have e1 : (((((w1.setCell ⟨w.heap.size + 1 + 1, 3, none⟩ (.slice A3' x.2.2.2.length c3')).setCell ⟨w.heap.size + 1, 0, none⟩ (.int .i64 x.1)).setCell ⟨w.heap.size + 1, 1, none⟩ (.int .i64 x.2.1)).setCell ⟨w.heap.size + 1, 2, none⟩ (.int .i64 x.2.2.1)).setCell ⟨w.heap.size + 1, 3, none⟩ (.slice A3' x.2.2.2.length c3')).cell? ⟨w.heap.size + 1, 1, none⟩ = some (.int .i64 x.2.1) := hE.cell 1
  have e2 : (((((w1.setCell ⟨w.heap.size + 1 + 1, 3, none⟩ (.slice A3' x.2.2.2.length c3')).setCell ⟨w.heap.size + 1, 0, none⟩ (.int .i64 x.1)).setCell ⟨w.heap.size + 1, 1, none⟩ (.int .i64 x.2.1)).setCell ⟨w.heap.size + 1, 2, none⟩ (.int .i64 x.2.2.1)).setCell ⟨w.heap.size + 1, 3, none⟩ (.slice A3' x.2.2.2.length c3')).cell? ⟨w.heap.size + 1, 2, none⟩ = some (.int .i64 x.2.2.1) := hE.cell 2
  have e3 : (((((w1.setCell ⟨w.heap.size + 1 + 1, 3, none⟩ (.slice A3' x.2.2.2.length c3')).setCell ⟨w.heap.size + 1, 0, none⟩ (.int .i64 x.1)).setCell ⟨w.heap.size + 1, 1, none⟩ (.int .i64 x.2.1)).setCell ⟨w.heap.size + 1, 2, none⟩ (.int .i64 x.2.2.1)).setCell ⟨w.heap.size + 1, 3, none⟩ (.slice A3' x.2.2.2.length c3')).cell? ⟨w.heap.size + 1, 3, none⟩ = some (.slice A3' x.2.2.2.length c3') := hE.cell 3
  refine bodyPost_ret (v := .agg #[.int .i64 x.1, .int .i64 x.2.1, .int .i64 x.2.2.1, .slice A3' x.2.2.2.length c3']) (by simp [results, Tryd.results49, go_sem, e0, e1, e2, e3]) rfl ?_
  have t1 : w.heap.size + 3 ≤ w1.heap.size := by have h1 := HBW1.out.size; simp only [World.size_alloc] at h1; omega
  refine ⟨[.int .i64 x.1, .int .i64 x.2.1, .int .i64 x.2.2.1, .slice A3' x.2.2.2.length c3'], rfl, ?_, ?_⟩
  · have sE1 : So eMultiRule (((((w1.setCell ⟨w.heap.size + 1 + 1, 3, none⟩ (.slice A3' x.2.2.2.length c3')).setCell ⟨w.heap.size + 1, 0, none⟩ (.int .i64 x.1)).setCell ⟨w.heap.size + 1, 1, none⟩ (.int .i64 x.2.1)).setCell ⟨w.heap.size + 1, 2, none⟩ (.int .i64 x.2.2.1)).setCell ⟨w.heap.size + 1, 3, none⟩ (.slice A3' x.2.2.2.length c3')) (Iv w.heap.size (((((w1.setCell ⟨w.heap.size + 1 + 1, 3, none⟩ (.slice A3' x.2.2.2.length c3')).setCell ⟨w.heap.size + 1, 0, none⟩ (.int .i64 x.1)).setCell ⟨w.heap.size + 1, 1, none⟩ (.int .i64 x.2.1)).setCell ⟨w.heap.size + 1, 2, none⟩ (.int .i64 x.2.2.1)).setCell ⟨w.heap.size + 1, 3, none⟩ (.slice A3' x.2.2.2.length c3')).heap.size) _ _ x.2.2.2 := (HS1.out.keep (w' := (((((w1.setCell ⟨w.heap.size + 1 + 1, 3, none⟩ (.slice A3' x.2.2.2.length c3')).setCell ⟨w.heap.size + 1, 0, none⟩ (.int .i64 x.1)).setCell ⟨w.heap.size + 1, 1, none⟩ (.int .i64 x.2.1)).setCell ⟨w.heap.size + 1, 2, none⟩ (.int .i64 x.2.2.1)).setCell ⟨w.heap.size + 1, 3, none⟩ (.slice A3' x.2.2.2.length c3'))) fun b hb => ((((((Lat.refl (w.heap.size + 3) w1).set (p := ⟨w.heap.size + 1 + 1, 3, none⟩) (by show w.heap.size + 1 + 1 < _; omega)).set (p := ⟨w.heap.size + 1, 0, none⟩) (by show w.heap.size + 1 < _; omega)).set (p := ⟨w.heap.size + 1, 1, none⟩) (by show w.heap.size + 1 < _; omega)).set (p := ⟨w.heap.size + 1, 2, none⟩) (by show w.heap.size + 1 < _; omega)).set (p := ⟨w.heap.size + 1, 3, none⟩) (by show w.heap.size + 1 < _; omega)).block b (by have h1 := hb.1; simp only [World.size_alloc, World.size_setCell] at h1; omega) hb.2).more (Iv.mono (by simp only [World.size_alloc]; omega) (by simp only [World.size_setCell]; omega))
    exact (oPrI G0.out (oPrI G1.out (oPrI G2.out (oSl sE1))))
  · exact (((((BL1.out.setCell (p := ⟨w.heap.size + 1 + 1, 3, none⟩) (by show w.heap.size ≤ w.heap.size + 1 + 1; omega) _).setCell (p := ⟨w.heap.size + 1, 0, none⟩) (by show w.heap.size ≤ w.heap.size + 1; omega) _).setCell (p := ⟨w.heap.size + 1, 1, none⟩) (by show w.heap.size ≤ w.heap.size + 1; omega) _).setCell (p := ⟨w.heap.size + 1, 2, none⟩) (by show w.heap.size ≤ w.heap.size + 1; omega) _).setCell (p := ⟨w.heap.size + 1, 3, none⟩) (by show w.heap.size ≤ w.heap.size + 1; omega) _)

theorem So.take {α : Type} {E : Enc α} {w : World} {S : Nat → Prop} {A : Option Addr} {c : Nat} {xs : List α} (h : So E w S A c xs) (k : Nat) : So E w S A c (xs.take k) :=
  ⟨by have := h.1; rw [List.length_take]; omega, h.2.1, fun hn => by
    obtain ⟨b, off, t, cur, T, hA, hb, hB, hT, hd, hc⟩ := h.2.2 (by rintro rfl; simp at hn)
    refine ⟨b, off, t, cur, T, hA, hb, hB, hT, hd, fun i x hx => hc i x ?_⟩
    rw [List.getElem?_take] at hx
    split at hx
    · exact hx
    · cases hx⟩

theorem Sl.take {α : Type} {E : Enc α} {w : World} {S : Nat → Prop} {A : Option Addr} {c : Nat} {xs : List α} (h : Sl E w S A c xs) (k : Nat) : Sl E w S A c (xs.take k) :=
  ⟨by have := h.1; rw [List.length_take]; omega, h.2.1, fun hn => by
    obtain ⟨b, off, hA, hb, hc⟩ := h.2.2 (by rintro rfl; simp at hn)
    refine ⟨b, off, hA, hb, fun i x hx => hc i x ?_⟩
    rw [List.getElem?_take] at hx
    split at hx
    · exact hx
    · cases hx⟩

def evp (L : List (Nat × Value)) : List (Nat × Operand) → Option (List (Nat × Value))
  | [] => some []
  | (i, x) :: xs => match ev L x, evp L xs with
    | some v, some vs => some ((i, v) :: vs)
    | _, _ => none

theorem evp_map {n : Nat} {L : List (Nat × Value)} {a : Act} (hE : Env n L a) : ∀ (xs : List (Nat × Operand)) (vs : List (Nat × Value)), evp L xs = some vs → (xs.map fun p => (p.1, a.eval p.2)) = vs
  | [], vs, h => by simp [evp] at h; subst h; rfl
  | (i, x) :: xs, vs, h => by
    simp only [evp] at h
    cases h1 : ev L x with
    | none => simp [h1] at h
    | some v =>
      cases h2 : evp L xs with
      | none => simp [h1, h2] at h
      | some us =>
        simp [h1, h2] at h
        subst h
        rw [List.map_cons, hE.ev h1, evp_map hE xs us h2]

theorem foldl_setAll (off : Nat) : ∀ (vs : List Value) (k : Nat) (cs : Array Value), (vs.zipIdx k).foldl (fun cs (p : Value × Nat) => cs.setIfInBounds (off + p.2) p.1) cs = setAll cs (off + k) vs
  | [], _, _ => rfl
  | v :: vs, k, cs => by
    rw [List.zipIdx_cons, List.foldl_cons, foldl_setAll off vs (k + 1)]
    rfl

theorem setAll_split (pre mid post vs : List Value) (h : mid.length = vs.length) : setAll (pre ++ mid ++ post).toArray pre.length vs = (pre ++ vs ++ post).toArray := by
  apply Array.ext_getElem?
  intro i
  rw [get_setAll _ _ _ _ (by simp; omega)]
  by_cases h1 : pre.length ≤ i ∧ i < pre.length + vs.length
  · rw [if_pos h1]
    simp only [List.getElem?_toArray]
    rw [List.append_assoc, List.getElem?_append_right h1.1, List.getElem?_append_left (by omega)]
  · rw [if_neg h1]
    simp only [List.getElem?_toArray, List.append_assoc]
    by_cases h2 : i < pre.length
    · rw [List.getElem?_append_left h2, List.getElem?_append_left h2]
    · rw [List.getElem?_append_right (by omega), List.getElem?_append_right (by omega), List.getElem?_append_right (by omega), List.getElem?_append_right (by omega), h]

def numb (j : Nat) : List Value → List (Nat × Value)
  | [] => []
  | v :: vs => (j, v) :: numb (j + 1) vs

theorem fill_all (sz : Nat) : ∀ (vs : List Value) (j : Nat) (pre post : List Value), pre.length = j * sz → post.length = vs.length * sz → (∀ v ∈ vs, v.cells.size = sz) → Instr.fill (fun i => some (i * sz, sz)) (pre ++ post).toArray (numb j vs) = some (pre ++ (vs.map fun v => v.cells.toList).flatten).toArray
  | [], j, pre, post, _, h2, _ => by
    have : post = [] := List.eq_nil_of_length_eq_zero (by simpa using h2)
    subst this; simp [numb, Instr.fill]
  | v :: vs, j, pre, post, h1, h2, h3 => by
    have hv := h3 v (by simp)
    rw [List.length_cons, Nat.succ_mul] at h2
    have hsp : post = post.take sz ++ post.drop sz := (List.take_append_drop sz post).symm
    have hl : (post.take sz).length = v.cells.toList.length := by rw [List.length_take]; simp [hv]; omega
    have hset := setAll_split pre (post.take sz) (post.drop sz) v.cells.toList hl
    have ih := fill_all sz vs (j + 1) (pre ++ v.cells.toList) (post.drop sz) (by simp [h1, hv, Nat.succ_mul]) (by rw [List.length_drop]; omega) (fun u hu => h3 u (by simp [hu]))
    have hfold : v.cells.zipIdx.foldl (fun cs (p : Value × Nat) => cs.setIfInBounds (j * sz + p.2) p.1) (pre ++ post).toArray = (pre ++ v.cells.toList ++ post.drop sz).toArray := by
      rw [← Array.foldl_toList, Array.toList_zipIdx, foldl_setAll, Nat.add_zero, ← h1, ← hset, List.append_assoc, ← hsp]
    have hle : ¬ ((pre ++ post).toArray.size < j * sz + sz) := by simp; omega
    have hc : (v.cells.size ≠ sz || decide (j * sz + v.cells.size > (pre ++ post).toArray.size)) = false := by
      rw [hv]; simp; omega
    simp only [numb, Instr.fill]
    rw [if_neg (by rw [hc]; simp)]
    rw [show (v.cells.zipIdx.foldl (fun cs x => match x with | (c, j_1) => cs.setIfInBounds (j * sz + j_1) c) (pre ++ post).toArray) = (pre ++ v.cells.toList ++ post.drop sz).toArray from hfold, ih]
    simp

/-- A slice literal, all of its elements given. -/
theorem run_lit {P : Program} {n m : Nat} {a : Act} {L : List (Nat × Value)} {w : World} {t e : TypeId} {sz by_ : Nat} {ps : List (Nat × Operand)} {vs : List Value} {cs : List Value} {d : Option Tmp} {ty : TypeId} {pos : String} {af : Array Edge} {g : Option (Nat × Bool)} (hT : TSl P t e sz by_) (hE : Env n L a) (he : evp L ps = some (numb 0 vs)) (hm : vs.length = m) (hv : ∀ v ∈ vs, v.cells.size = sz) (hcs : (vs.map fun v => v.cells.toList).flatten = cs) (hb : m * sz ≤ 16777216) :
    (execOp a.eval ⟨d, .buildSlice t m ps.toArray, ty, pos, af, g⟩).run P w = .ok (.value (.slice (some ⟨w.heap.size, 0, none⟩) m m)) (w.alloc (.cells cs.toArray e)) := by
  obtain ⟨i, z, e1, e2, e3, e4, e5⟩ := hT.info
  subst hm hcs
  have hE' := evp_map hE ps _ he
  have hb' : ¬ (vs.length * i.size > 2 ^ 24) := by rw [e3]; omega
  have key : ∀ zero : Array Value, Instr.fill (fun i_1 => some (i_1 * i.size, i.size)) ((Array.range (vs.length * i.size)).map (zero[· % zero.size]!)) (numb 0 vs) = some (vs.map fun v => v.cells.toList).flatten.toArray := by
    intro zero
    have := fill_all sz vs 0 [] ((Array.range (vs.length * i.size)).map (zero[· % zero.size]!)).toList (by simp) (by simp [e3]) hv
    simp only [List.nil_append, Array.toArray_toList] at this
    rw [e3] at this ⊢; exact this
  simp only [execOp, Instr.buildSlice, List.map_toArray, hE', Sem.run_bind, run_underlying hT.under, Result.andThen_ok, sizeOf, typeInfo, run_program, e1, Sem.run_pure, hb', if_false]
  by_cases h0 : vs.length * i.size = 0
  · simp [h0, newRow] at key ⊢
    have := key #[]
    simp at this
    simp [this]
  · simp [h0, zeroValue, typeInfo, e1, e2, newRow, key]

theorem lkI {t : Nat} {L : List (Nat × Value)} {q : IntKind} {x y : Int} (h : lk t L = some (.int q x)) (e : x = y) : lk t L = some (.int q y) := e ▸ h

theorem Held.to {M : Nat → Prop} {w0 : World} {rs rs' : List Res} {w : World} (h : Held M w0 rs w) (e : rs = rs') : Held M w0 rs' w := e ▸ h

theorem Held.flatO {M : Nat → Prop} {w0 : World} {rs : List Res} {w : World} (h : Held M w0 rs w) {α : Type} {E : Enc α} {cs : List Value} {x : α} (ho : ∀ W, E.O W Nob cs x) : Held M w0 (rO E Nob cs x :: rs) w := h.new (Below.refl _ _) (rO E Nob cs x) (ho w) fun _ h => h.elim

/-- A literal slice reads as the list of what its elements read as. -/
theorem Held.slLit {M : Nat → Prop} {w0 w : World} {rs : List Res} {α : Type} {E : Enc α} {g : Nat} {t : TypeId} {css : List (List Value)} {xs : List α} (h : Held M w0 rs w) {i : Nat} (hi : rs[i]? = some (rBlk g t css.flatten)) (hl : css.length = xs.length) (hm : xs.length ≤ maxLen) (hR : ∀ (j : Nat) (x : α), xs[j]? = some x → ∃ es, css[j]? = some es ∧ E.R w (Old w) es x) : Sl E w (Old w) (some ⟨g, 0, none⟩) xs.length xs := by
  have hB : Blk w g t css.flatten.toArray := h.get hi
  refine ⟨Nat.le_refl _, hm, fun _ => ⟨g, 0, rfl, Blk.lt hB, fun j x hx => ?_⟩⟩
  obtain ⟨es, h1, h2⟩ := hR j x hx
  refine ⟨es, h2, fun q v hv => ?_⟩
  have hsz : ∀ es ∈ css, es.length = E.size := fun es hes => by
    obtain ⟨m, hm', rfl⟩ := List.getElem_of_mem hes
    obtain ⟨es', h3, h4⟩ := hR m xs[m] (List.getElem?_eq_getElem (by omega))
    rw [List.getElem?_eq_getElem hm'] at h3
    simp at h3; rw [h3]; exact E.len h4
  have hq : q < E.size := by
    have := (List.getElem?_eq_some_iff.1 hv).1
    rw [hsz es (List.mem_of_getElem? h1)] at this; exact this
  have := flatten_at E.size css hsz j es h1 q hq
  rw [Nat.zero_add, hB.cell, List.getElem?_toArray, this]; exact hv

theorem tv_parts {P : Program} {t : TypeId} {z : Value} {n : Nat} (h : (P.info? t).map (fun i => (i.zero, i.size)) = some (some z, n)) : ∃ i, P.info? t = some i ∧ i.zero = some z ∧ i.size = n := by
  cases hi : P.info? t with
  | none => rw [hi] at h; cases h
  | some i =>
    rw [hi] at h
    simp only [Option.map_some, Option.some.injEq, Prod.mk.injEq] at h
    exact ⟨i, rfl, h.1, h.2⟩

theorem ts_parts {P : Program} {t : TypeId} {z : Value} {n b : Nat} (h : (P.info? t).map (fun i => (i.zero, i.size, i.bytes)) = some (some z, n, b)) : ∃ i, P.info? t = some i ∧ i.zero = some z ∧ i.size = n ∧ i.bytes = b := by
  cases hi : P.info? t with
  | none => rw [hi] at h; cases h
  | some i =>
    rw [hi] at h
    simp only [Option.map_some, Option.some.injEq, Prod.mk.injEq] at h
    exact ⟨i, rfl, h.1, h.2.1, h.2.2⟩

theorem Env.castI {n t : Nat} {L : List (Nat × Value)} {a : Act} {q : IntKind} {x y : Int} (h : Env n L a) (hl : lk t L = some (.int q x)) (e : x = y) : Env n ((t, .int q y) :: L) a :=
  h.sub' fun s v hv => by
    simp only [lk] at hv
    by_cases hs : Nat.beq s t = true
    · rw [hs] at hv
      have hs' := Nat.eq_of_beq_eq_true hs
      subst hs' e
      simp at hv
      rw [hl, hv]
    · have hs' : Nat.beq s t = false := Bool.eq_false_iff.2 hs
      rw [hs'] at hv; exact hv

/-- A captured variable's cell, as a closure sees it. -/
theorem Held.capB {M : Nat → Prop} {w0 : World} {rs : List Res} {w W : World} {g : Nat} {t : TypeId} {cs : List Value} (h : Held M w0 rs w) (i : Nat) (hi : rs[i]? = some (rBlk g t cs)) (hb : Below w.heap.size w W) : ∀ j v, cs[j]? = some v → W.cell? ⟨g, 0 + j, none⟩ = some v := fun j v hv => by
  have hlt := (h.rng _ (List.mem_of_getElem? hi) g rfl).2
  rw [hb.cell (p := ⟨g, 0 + j, none⟩) hlt]
  exact c_blkN i hi w h j v hv

theorem Env.castS {n t m m' c : Nat} {A : Option Addr} {L : List (Nat × Value)} {a : Act} (h : Env n L a) (hl : lk t L = some (.slice A m c)) (e : m = m') : Env n ((t, .slice A m' c) :: L) a :=
  h.sub' fun s v hv => by
    simp only [lk] at hv
    by_cases hs : Nat.beq s t = true
    · rw [hs] at hv
      have hs' := Nat.eq_of_beq_eq_true hs
      subst hs' e
      simp at hv
      rw [hl, hv]
    · have hs' : Nat.beq s t = false := Bool.eq_false_iff.2 hs
      rw [hs'] at hv; exact hv

/-- What was there, outside M. -/
def Out (M : Nat → Prop) (w : World) (b : Nat) : Prop := b < w.heap.size ∧ ¬ M b

/-- The blocks of some parts. -/
def Foot (xs : List Res) (b : Nat) : Prop := ∃ r ∈ xs, r.S b

theorem Held.startM {w : World} {α : Type} {E : Enc α} {S : Nat → Prop} {cs : List Value} {x : α} (ho : E.O w S cs x) (hS : ∀ b, S b → b < w.heap.size) : Held S w [rO E S cs x] w :=
  ⟨Chg.refl _ _, (fun r hr => by simp at hr; subst hr; exact ho), (fun r hr b hb => by simp at hr; subst hr; exact ⟨.inl hb, hS b hb⟩), by simp⟩

theorem Held.focus {M0 : Nat → Prop} {w0 : World} {xs rs : List Res} {w : World} (h : Held M0 w0 (xs ++ rs) w) : Held (Foot xs) w xs w :=
  ⟨Chg.refl _ _, fun r hr => h.ok r (by simp [hr]), fun r hr b hb => ⟨.inl ⟨r, hr, hb⟩, (h.rng r (by simp [hr]) b hb).2⟩, (List.pairwise_append.1 h.sep).1⟩

theorem Held.back {M0 : Nat → Prop} {w0 : World} {xs ys rs : List Res} {w w' : World} (h : Held M0 w0 (xs ++ rs) w) (h' : Held (Foot xs) w ys w') : Held M0 w0 (ys ++ rs) w' where
  chg := by
    refine ⟨h'.chg.os.trans h.chg.os, h'.chg.tape.trans h.chg.tape, h'.chg.output.trans h.chg.output, Nat.le_trans h.chg.size h'.chg.size, fun k hk hM => ?_⟩
    refine (h'.chg.block k (Nat.lt_of_lt_of_le hk h.chg.size) ?_).trans (h.chg.block k hk hM)
    rintro ⟨r, hr, hb⟩
    rcases (h.rng r (by simp [hr]) k hb).1 with q | q
    · exact hM q
    · omega
  ok := by
    intro r hr
    rcases List.mem_append.1 hr with hr | hr
    · exact h'.ok r hr
    · refine r.loc w w' (fun b hb => h'.chg.block b (h.rng r (by simp [hr]) b hb).2 ?_) (h.ok r (by simp [hr]))
      rintro ⟨s, hs, hb'⟩
      exact (List.pairwise_append.1 h.sep).2.2 s hs r hr b hb' hb
  rng := by
    intro r hr b hb
    rcases List.mem_append.1 hr with hr | hr
    · obtain ⟨h1, h2⟩ := h'.rng r hr b hb
      refine ⟨?_, h2⟩
      rcases h1 with ⟨s, hs, hb'⟩ | h1
      · exact (h.rng s (by simp [hs]) b hb').1
      · exact .inr (Nat.le_trans h.size h1)
    · have h1 := h.rng r (by simp [hr]) b hb
      exact ⟨h1.1, Nat.lt_of_lt_of_le h1.2 h'.chg.size⟩
  sep := by
    refine List.pairwise_append.2 ⟨h'.sep, (List.pairwise_append.1 h.sep).2.1, fun r hr s hs b hb hb' => ?_⟩
    rcases (h'.rng r hr b hb).1 with ⟨q, hq, hb2⟩ | h1
    · exact (List.pairwise_append.1 h.sep).2.2 q hq s hs b hb2 hb'
    · have := (h.rng s (by simp [hs]) b hb').2; omega

theorem Held.oldM {M : Nat → Prop} {w0 : World} {rs : List Res} {w : World} {α : Type} {E : Enc α} {A : Option Addr} {c : Nat} {xs : List α} (h : Held M w0 rs w) (hs : Sl E w0 (Out M w0) A c xs) : Sl E w (Old w) A c xs :=
  (hs.keep (fun p hp => World.cell?_of_block (w := w0) (h.chg.block p.block hp.1 hp.2))).more fun b hb => Nat.lt_of_lt_of_le hb.1 h.chg.size

theorem Held.oldRM {M : Nat → Prop} {w0 : World} {rs : List Res} {w : World} {α : Type} {E : Enc α} {cs : List Value} {x : α} (h : Held M w0 rs w) (hs : E.R w0 (Out M w0) cs x) : E.R w (Old w) cs x :=
  E.more (E.keep hs (fun p hp => World.cell?_of_block (w := w0) (h.chg.block p.block hp.1 hp.2))) fun b hb => Nat.lt_of_lt_of_le hb.1 h.chg.size

/-- A borrowed slice, as a callee that rewrites xs sees it. -/
theorem Held.lend {w0 : World} {xs rs : List Res} {w : World} {α : Type} {E : Enc α} {A : Option Addr} {c : Nat} {zs : List α} (h : Held Nob w0 (xs ++ rs) w) (hs : Sl E w0 (Old w0) A c zs) : Sl E w (Out (Foot xs) w) A c zs :=
  (hs.keep (fun p hp => h.cell0 hp fun h => h)).more fun b hb => ⟨Nat.lt_of_lt_of_le hb h.size, by
    rintro ⟨r, hr, hb'⟩
    rcases (h.rng r (by simp [hr]) b hb').1 with q | q
    · exact q.elim
    · have : b < w0.heap.size := hb
      omega⟩

theorem Held.lendM {M : Nat → Prop} {w0 : World} {xs rs : List Res} {w : World} {α : Type} {E : Enc α} {A : Option Addr} {c : Nat} {zs : List α} (h : Held M w0 (xs ++ rs) w) (hs : Sl E w0 (Out M w0) A c zs) : Sl E w (Out (Foot xs) w) A c zs :=
  (hs.keep (fun p hp => h.cell0 hp.1 hp.2)).more fun b hb => ⟨Nat.lt_of_lt_of_le hb.1 h.size, by
    rintro ⟨r, hr, hb'⟩
    rcases (h.rng r (by simp [hr]) b hb').1 with q | q
    · exact hb.2 q
    · have : b < w0.heap.size := hb.1
      omega⟩

/-- A part that is owned, as a callee that rewrites other parts sees it. -/
theorem Held.lendR {M : Nat → Prop} {w0 : World} {xs rs : List Res} {w : World} {α : Type} {E : Enc α} {S : Nat → Prop} {cs : List Value} {x : α} (h : Held M w0 (xs ++ rs) w) {i : Nat} (hi : rs[i]? = some (rO E S cs x)) : E.R w (Out (Foot xs) w) cs x :=
  E.more (E.read (h.ok _ (List.mem_append_right _ (List.mem_of_getElem? hi)))) fun b hb => ⟨(h.rng _ (List.mem_append_right _ (List.mem_of_getElem? hi)) b hb).2, by
    rintro ⟨r, hr, hb'⟩
    exact (List.pairwise_append.1 h.sep).2.2 r hr _ (List.mem_of_getElem? hi) b hb' hb⟩

theorem Held.lendO {w0 : World} {xs rs : List Res} {w : World} {α : Type} {E : Enc α} {cs : List Value} {x : α} (h : Held Nob w0 (xs ++ rs) w) (hs : E.R w0 (Old w0) cs x) : E.R w (Out (Foot xs) w) cs x :=
  E.more (E.keep hs (fun p hp => h.cell0 hp fun h => h)) fun b hb => ⟨Nat.lt_of_lt_of_le hb h.size, by
    rintro ⟨r, hr, hb'⟩
    rcases (h.rng r (by simp [hr]) b hb').1 with q | q
    · exact q.elim
    · have : b < w0.heap.size := hb
      omega⟩

theorem Held.lendOM {M : Nat → Prop} {w0 : World} {xs rs : List Res} {w : World} {α : Type} {E : Enc α} {cs : List Value} {x : α} (h : Held M w0 (xs ++ rs) w) (hs : E.R w0 (Out M w0) cs x) : E.R w (Out (Foot xs) w) cs x :=
  E.more (E.keep hs (fun p hp => h.cell0 hp.1 hp.2)) fun b hb => ⟨Nat.lt_of_lt_of_le hb.1 h.size, by
    rintro ⟨r, hr, hb'⟩
    rcases (h.rng r (by simp [hr]) b hb').1 with q | q
    · exact hb.2 q
    · have : b < w0.heap.size := hb.1
      omega⟩

theorem Held.nfB {M : Nat → Prop} {w0 : World} {xs rs : List Res} {w : World} (h : Held M w0 (xs ++ rs) w) {i g : Nat} {t : TypeId} {cs : List Value} (hi : rs[i]? = some (rBlk g t cs)) : ¬ Foot xs g := by
  rintro ⟨r, hr, hb'⟩
  exact (List.pairwise_append.1 h.sep).2.2 r hr _ (List.mem_of_getElem? hi) g hb' rfl

theorem block_of_cell {w : World} {b o : Nat} {v : Value} (h : w.cell? ⟨b, o, none⟩ = some v) : b < w.heap.size := by
  rcases Nat.lt_or_ge b w.heap.size with h1 | h1
  · exact h1
  · exfalso
    unfold World.cell? at h
    simp [Array.getElem?_eq_none h1] at h

theorem Held.nfO {w0 : World} {xs rs : List Res} {w : World} (h : Held Nob w0 (xs ++ rs) w) {b o : Nat} {v : Value} (hc : w0.cell? ⟨b, o, none⟩ = some v) : ¬ Foot xs b := by
  rintro ⟨r, hr, hb'⟩
  rcases (h.rng r (by simp [hr]) b hb').1 with q | q
  · exact q.elim
  · have := block_of_cell hc
    omega

theorem Held.nfOM {M : Nat → Prop} {w0 : World} {xs rs : List Res} {w : World} (h : Held M w0 (xs ++ rs) w) {b o : Nat} {v : Value} (hM : ¬ M b) (hc : w0.cell? ⟨b, o, none⟩ = some v) : ¬ Foot xs b := by
  rintro ⟨r, hr, hb'⟩
  rcases (h.rng r (by simp [hr]) b hb').1 with q | q
  · exact hM q
  · have := block_of_cell hc
    omega

/-- The flat part in front given up. -/
theorem Held.unF {M : Nat → Prop} {w0 : World} {rs : List Res} {w : World} {α β : Type} {E : Enc α} {F : Enc β} {S : Nat → Prop} {v : Value} {cs : List Value} {x : α × β} (h1 : E.size = 1) (h : Held M w0 (rO (ePr E F) S (v :: cs) x :: rs) w) : Held M w0 (rO F S cs x.2 :: rs) w := by
  refine h.turn _ ?_ fun _ hb => hb
  rintro ⟨c1, c2, S1, S2, he, k1, k2, o1, o2⟩
  have hl := E.len (E.read o1)
  rw [h1] at hl
  obtain ⟨u, rfl⟩ := List.length_eq_one_iff.1 hl
  simp at he
  obtain ⟨_, rfl⟩ := he
  exact F.omore o2 k2

theorem Held.unP {M : Nat → Prop} {w0 : World} {rs : List Res} {w : World} {α β : Type} {E : Enc α} {F : Enc β} {S : Nat → Prop} {v : Value} {cs : List Value} {x : α × β} (h1 : E.size = 1) (h : Held M w0 (rO (ePr E F) S (v :: cs) x :: rs) w) : ∃ S1 S2, Held M w0 (rO E S1 [v] x.1 :: rO F S2 cs x.2 :: rs) w := by
  obtain ⟨c1, c2, S1, S2, he, k1, k2, o1, o2⟩ := h.ok _ (List.mem_cons_self)
  have hl := E.len (E.read o1)
  rw [h1] at hl
  obtain ⟨u, rfl⟩ := List.length_eq_one_iff.1 hl
  simp at he
  obtain ⟨rfl, rfl⟩ := he
  have hs := List.pairwise_cons.1 h.sep
  refine ⟨S1, S2, h.chg, ?_, ?_, ?_⟩
  · intro r hr
    simp only [List.mem_cons] at hr
    rcases hr with rfl | rfl | hr
    · exact o1
    · exact o2
    · exact h.ok r (by simp [hr])
  · intro r hr b hb
    simp only [List.mem_cons] at hr
    rcases hr with rfl | rfl | hr
    · exact h.rng _ (List.mem_cons_self) b (k1 b hb).1
    · exact h.rng _ (List.mem_cons_self) b (k2 b hb)
    · exact h.rng r (by simp [hr]) b hb
  · refine List.pairwise_cons.2 ⟨fun r hr b hb hb' => ?_, List.pairwise_cons.2 ⟨fun r hr b hb hb' => hs.1 r hr b (k2 b hb) hb', hs.2⟩⟩
    rcases List.mem_cons.1 hr with rfl | hr
    · exact (k1 b hb).2 hb'
    · exact hs.1 r hr b (k1 b hb).1 hb'

/-- An owned slice with one element laid open: its cells es; what the element owns (T) is held apart. -/
def Foc {α : Type} (E : Enc α) (w : World) (S : Nat → Prop) (b off c : Nat) (xs : List α) (k : Nat) (es : List Value) : Prop :=
  k < xs.length ∧ xs.length ≤ c ∧ c ≤ maxLen ∧ S b ∧ es.length = E.size ∧ ∃ (t : TypeId) (cur : Array Value) (T : Nat → Nat → Prop), Blk w b t cur ∧ (∀ i m, T i m → S m ∧ m ≠ b) ∧ (∀ i j m, T i m → T j m → i = j) ∧
    (∀ j v, es[j]? = some v → cur[off + k * E.size + j]? = some v) ∧ ∀ (i : Nat) (x : α), i ≠ k → xs[i]? = some x → ∃ us, E.O w (T i) us x ∧ ∀ j v, us[j]? = some v → cur[off + i * E.size + j]? = some v

theorem Foc.keep {α : Type} {E : Enc α} {w w' : World} {S : Nat → Prop} {b off c : Nat} {xs : List α} {k : Nat} {es : List Value} (h : Foc E w S b off c xs k es) (hk : ∀ b, S b → w'.heap[b]? = w.heap[b]?) : Foc E w' S b off c xs k es := by
  obtain ⟨h1, h2, h3, h4, h5, t, cur, T, hB, hT, hd, hc, hr⟩ := h
  refine ⟨h1, h2, h3, h4, h5, t, cur, T, (hk b h4).trans hB, hT, hd, hc, fun i x hi hx => ?_⟩
  obtain ⟨us, q1, q2⟩ := hr i x hi hx
  exact ⟨us, E.okeep q1 fun m hm => hk m (hT i m hm).1, q2⟩

def rFoc {α : Type} (E : Enc α) (S : Nat → Prop) (b off c : Nat) (xs : List α) (k : Nat) (es : List Value) : Res := ⟨S, fun w => Foc E w S b off c xs k es, fun _ _ h hf => hf.keep h⟩

theorem Held.open {M : Nat → Prop} {w0 : World} {rs : List Res} {w : World} {α : Type} {E : Enc α} {S : Nat → Prop} {A : Option Addr} {c : Nat} {xs : List α} (h : Held M w0 (rSo E S A c xs :: rs) w) {k : Nat} (hk : k < xs.length) :
    ∃ b off es T, A = some ⟨b, off, none⟩ ∧ E.R w (Old w) es xs[k] ∧ (∀ m, T m → S m ∧ m ≠ b) ∧ Held M w0 (rFoc E (fun m => S m ∧ ¬ T m) b off c xs k es :: rO E T es xs[k] :: rs) w := by
  have hso := so_of_o (h.ok _ (List.mem_cons_self))
  have hrng := h.rng _ (List.mem_cons_self)
  obtain ⟨b, off, t, cur, T, hA, hb, hB, hT, hd, hc⟩ := hso.2.2 (by intro e; subst e; simp at hk)
  obtain ⟨es, h1, h2⟩ := hc k xs[k] (List.getElem?_eq_getElem hk)
  have hs := List.pairwise_cons.1 h.sep
  refine ⟨b, off, es, T k, hA, E.more (E.read h1) (fun m hm => (hrng m (hT k m hm).1).2), fun m hm => hT k m hm, h.chg, ?_, ?_, ?_⟩
  · intro r hr
    simp only [List.mem_cons] at hr
    rcases hr with rfl | rfl | hr
    · refine ⟨hk, hso.1, hso.2.1, ⟨hb, fun hm => (hT k b hm).2 rfl⟩, E.len (E.read h1), t, cur, fun i m => i ≠ k ∧ T i m, hB, fun i m hm => ⟨⟨(hT i m hm.2).1, fun hm' => hm.1 (hd i k m hm.2 hm')⟩, (hT i m hm.2).2⟩, fun i j m h3 h4 => hd i j m h3.2 h4.2, h2, fun i x hi hx => ?_⟩
      obtain ⟨us, q1, q2⟩ := hc i x hx
      exact ⟨us, E.omore q1 fun m hm => ⟨hi, hm⟩, q2⟩
    · exact h1
    · exact h.ok r (by simp [hr])
  · intro r hr m hm
    simp only [List.mem_cons] at hr
    rcases hr with rfl | rfl | hr
    · exact hrng m hm.1
    · exact hrng m (hT k m hm).1
    · exact h.rng r (by simp [hr]) m hm
  · refine List.pairwise_cons.2 ⟨fun r hr m hm hm' => ?_, List.pairwise_cons.2 ⟨fun r hr m hm hm' => hs.1 r hr m (hT k m hm).1 hm', hs.2⟩⟩
    rcases List.mem_cons.1 hr with rfl | hr
    · exact hm.2 hm'
    · exact hs.1 r hr m hm.1 hm'

theorem Held.shut {M : Nat → Prop} {w0 : World} {rs : List Res} {w : World} {α : Type} {E : Enc α} {S T : Nat → Prop} {b off c k : Nat} {xs : List α} {es : List Value} {y : α} (h : Held M w0 (rFoc E S b off c xs k es :: rO E T es y :: rs) w) : Held M w0 (rSo E (fun m => S m ∨ T m) (some ⟨b, off, none⟩) c (xs.set k y) :: rs) w := by
  refine h.join _ (fun hf ho hd => ?_) fun _ hb => hb
  obtain ⟨h1, h2, h3, h4, h5, t, cur, T', hB, hT, hd', hc, hr⟩ := hf
  refine oSl ⟨by rw [List.length_set]; exact h2, h3, fun _ => ⟨b, off, t, cur, fun i m => (i = k ∧ T m) ∨ (i ≠ k ∧ T' i m), rfl, .inl h4, hB, ?_, ?_, fun i x hx => ?_⟩⟩
  · rintro i m (⟨_, hm⟩ | ⟨_, hm⟩)
    · exact ⟨.inr hm, fun e => hd b h4 (e ▸ hm)⟩
    · exact ⟨.inl (hT i m hm).1, (hT i m hm).2⟩
  · rintro i j m (⟨hi, hm⟩ | ⟨hi, hm⟩) (⟨hj, hm'⟩ | ⟨hj, hm'⟩)
    · rw [hi, hj]
    · exact absurd hm (hd m (hT j m hm').1)
    · exact absurd hm' (hd m (hT i m hm).1)
    · exact hd' i j m hm hm'
  · by_cases e : i = k
    · subst e
      rw [List.getElem?_set_self h1] at hx
      simp at hx; subst hx
      exact ⟨es, E.omore ho fun m hm => .inl ⟨rfl, hm⟩, hc⟩
    · rw [List.getElem?_set_ne (fun h => e h.symm)] at hx
      obtain ⟨us, q1, q2⟩ := hr i x e hx
      exact ⟨us, E.omore q1 fun m hm => .inr ⟨e, hm⟩, q2⟩

theorem Held.relen {M : Nat → Prop} {w0 : World} {rs : List Res} {w : World} {α : Type} {E : Enc α} {S : Nat → Prop} {A : Option Addr} {c n : Nat} {xs : List α} (h : Held M w0 (rSo E S A c xs :: rs) w) (hn : xs.length = n) : Held M w0 (rO (eSl E) S [.slice A n c] xs :: rs) w := hn ▸ h

theorem Held.lt {M : Nat → Prop} {w0 : World} {rs : List Res} {w : World} (h : Held M w0 rs w) {i : Nat} {r : Res} (hi : rs[i]? = some r) : ∀ b, r.S b → b < w.heap.size := fun b hb => (h.rng r (List.mem_of_getElem? hi) b hb).2

/-- What a callee made, beside what is held. -/
theorem Held.app {M : Nat → Prop} {w0 : World} {rs qs : List Res} {w w' : World} (h : Held M w0 rs w) (h' : Held Nob w qs w') : Held M w0 (qs ++ rs) w' where
  chg := (h.on h'.below).chg
  ok := by
    intro r hr
    rcases List.mem_append.1 hr with hr | hr
    · exact h'.ok r hr
    · exact (h.on h'.below).ok r hr
  rng := by
    intro r hr b hb
    rcases List.mem_append.1 hr with hr | hr
    · have h1 := h'.rng r hr b hb
      exact ⟨.inr (Nat.le_trans h.size (h1.1.resolve_left fun q => q.elim)), h1.2⟩
    · exact (h.on h'.below).rng r hr b hb
  sep := by
    refine List.pairwise_append.2 ⟨h'.sep, h.sep, fun r hr s hs b hb hb' => ?_⟩
    have h1 := (h'.rng r hr b hb).1.resolve_left fun q => q.elim
    have h2 := (h.rng s hs b hb').2
    omega

/-- Held only if p holds. -/
def rIf (p : Prop) (r : Res) : Res := ⟨r.S, fun w => p → r.φ w, fun w w' h hp hq => r.loc w w' h (hp hq)⟩

theorem Held.toIf {M : Nat → Prop} {w0 : World} {rs : List Res} {r : Res} {w : World} (h : Held M w0 (r :: rs) w) (p : Prop) : Held M w0 (rIf p r :: rs) w :=
  h.turn (rIf p r) (fun hr _ => hr) fun _ h => h

theorem Held.ofIf {M : Nat → Prop} {w0 : World} {rs : List Res} {r : Res} {w : World} {p : Prop} (h : Held M w0 (rIf p r :: rs) w) (hp : p) : Held M w0 (r :: rs) w :=
  h.turn r (fun hr => hr hp) fun _ h => h

theorem Held.noIf {M : Nat → Prop} {w0 : World} {rs : List Res} {w : World} {p : Prop} (h : Held M w0 rs w) {α : Type} {E : Enc α} {A : Option Addr} {c : Nat} {xs : List α} (r : Res) (hp : ¬ p) (hr : r = rSo E Nob A c xs := by rfl) : Held M w0 (rIf p r :: rs) w := by
  subst hr
  exact h.new (Below.refl _ _) (rIf p (rSo E Nob A c xs)) (fun hq => absurd hq hp) fun _ h => h.elim

abbrev bs (l : List UInt8) : ByteArray := ⟨l.toArray⟩

theorem bs_size (l : List UInt8) : (bs l).size = l.length := by simp [bs, ByteArray.size]

theorem bs_toList (l : List UInt8) : (bs l).toList = l := by rw [Go.Lib.toList_data]

theorem bs_app (a b : List UInt8) : bs a ++ bs b = bs (a ++ b) := by
  rw [ByteArray.mk_append_mk]

theorem bs_eta (s : ByteArray) : bs s.data.toList = s := by cases s; simp

theorem lkS {t : Nat} {L : List (Nat × Value)} {x y : List UInt8} (h : lk t L = some (.string (bs x))) (e : x = y) : lk t L = some (.string (bs y)) := e ▸ h

/-- A byte of a row of bytes. -/
def eByte : Enc Int where
  size := 1
  pos := Nat.zero_lt_one
  R := fun _ _ cs x => cs = [.int .u8 x] ∧ 0 ≤ x ∧ x ≤ 255
  len := by rintro _ _ _ _ ⟨rfl, _⟩; rfl
  keep := fun h _ => h
  more := fun h _ => h
  O := fun _ _ cs x => cs = [.int .u8 x] ∧ 0 ≤ x ∧ x ≤ 255
  read := fun h => h
  okeep := fun h _ => h
  omore := fun h _ => h

/-- A text. -/
def eTxt : Enc (List UInt8) where
  size := 1
  pos := Nat.zero_lt_one
  R := fun _ _ cs x => cs = [.string (bs x)] ∧ x.length ≤ 9223372036854775807
  len := by rintro _ _ _ _ ⟨rfl, _⟩; rfl
  keep := fun h _ => h
  more := fun h _ => h
  O := fun _ _ cs x => cs = [.string (bs x)] ∧ x.length ≤ 9223372036854775807
  read := fun h => h
  okeep := fun h _ => h
  omore := fun h _ => h

theorem oY {w : World} {S : Nat → Prop} {x : Int} (h : 0 ≤ x ∧ x ≤ 255) : eByte.O w S [.int .u8 x] x := ⟨rfl, h⟩

theorem oS {w : World} {S : Nat → Prop} {x : List UInt8} (h : x.length ≤ 9223372036854775807) : eTxt.O w S [.string (bs x)] x := ⟨rfl, h⟩

theorem x_sadd {P : Program} {S : World → Prop} {L : List (Nat × Value)} {d : Option Tmp} {t t' : TypeId} {x y : Operand} {m k : List UInt8} {ty : TypeId} {pos : String} {af : Array Edge} {g : Option (Nat × Bool)} (hx : ev L x = some (.string (bs m))) (hy : ev L y = some (.string (bs k))) (h : m.length + k.length ≤ 9223372036854775807) : XS P S L ⟨d, .binOp .add t x y t', ty, pos, af, g⟩ (.string (bs (m ++ k))) := fun _ _ _ hE _ => by
  have e : ¬ (((bs m).size + (bs k).size : Nat) : Int) > IntKind.i64.max := by
    rw [bs_size, bs_size]; show ¬ _ > (9223372036854775807 : Int); omega
  simp only [execOp, hE.ev hx, hE.ev hy, eqGuard, binOp, Op.stringOp, if_neg e, bs_app]; rfl

theorem beq_dec (m k : List UInt8) : (m == k) = decide (m = k) := by
  by_cases h : m = k <;> simp [h]

theorem x_sneqB {P : Program} {S : World → Prop} {L : List (Nat × Value)} {d : Option Tmp} {t t' : TypeId} {x y : Operand} {m k : List UInt8} {ty : TypeId} {pos : String} {af : Array Edge} {g : Option (Nat × Bool)} (hx : ev L x = some (.string (bs m))) (hy : ev L y = some (.string (bs k))) : XS P S L ⟨d, .binOp .neq t x y t', ty, pos, af, g⟩ (.bool (!decide (m = k))) := by
  have := x_sneq (P := P) (S := S) (d := d) (t := t) (t' := t') (ty := ty) (pos := pos) (af := af) (g := g) hx hy
  rwa [bs_toList, bs_toList, beq_dec] at this

theorem x_conv8 {P : Program} {S : World → Prop} {L : List (Nat × Value)} {d : Option Tmp} {s t : TypeId} {x : Operand} {q : IntKind} {m : Int} {ty : TypeId} {pos : String} {af : Array Edge} {g : Option (Nat × Bool)} {sd : TypeDesc} (hs : P.underlying s = some sd) (ht : P.underlying t = some (.int .u8)) (hx : ev L x = some (.int q m)) (h : 0 ≤ m ∧ m ≤ 255) : XS P S L ⟨d, .convert s t x, ty, pos, af, g⟩ (.int .u8 m) := fun _ _ _ hE _ => by
  have e : IntKind.u8.wrap m = m := IntWalk.u8_in _ h
  simp [execOp, hE.ev hx, convert, run_underlying hs, run_underlying ht, Conv.intToInt, e]

theorem x_idxB {P : Program} {S : World → Prop} {L : List (Nat × Value)} {d : Option Tmp} {t : TypeId} {x y : Operand} {l : List UInt8} {q : IntKind} {m : Int} {k : Nat} {b : UInt8} {ty : TypeId} {pos : String} {af : Array Edge} {g : Option (Nat × Bool)} (ht : P.underlying t = some .string) (hx : ev L x = some (.string (bs l))) (hy : ev L y = some (.int q m)) (hm : m = (k : Int)) (hk : k < l.length) (hb : b = l[k]) : XS P S L ⟨d, .index t x y, ty, pos, af, g⟩ (.int .u8 (b.toNat : Int)) := fun _ _ w hE _ => by
  subst hm hb
  have h := run_index_string (P := P) w t (bs l) q (k : Int) ht
  rw [dif_pos ⟨by omega, by rw [bs_size]; omega⟩] at h
  simp only [execOp, hE.ev hx, hE.ev hy, Sem.run_bind, h, Result.andThen_ok]
  rfl

theorem loadCells_sl {P : Program} {w : World} {b off c : Nat} {S : Nat → Prop} {xs : List Int} (h : Sl eByte w S (some ⟨b, off, none⟩) c xs) : (loadCells ⟨b, off, none⟩ xs.length).run P w = .ok (xs.map (Value.int .u8)).toArray w := by
  have key : ∀ (ys : List Int) (i : Nat) (acc : Array Value), (∀ (j : Nat) (y : Int), ys[j]? = some y → w.cell? ⟨b, off + (i + j), none⟩ = some (.int .u8 y)) → (loadCellsFrom ⟨b, off, none⟩ i ys.length acc).run P w = .ok (acc ++ (ys.map (Value.int .u8)).toArray) w := by
    intro ys
    induction ys with
    | nil => intro i acc _; simp [loadCellsFrom, Sem.run_pure]
    | cons y ys ih =>
      intro i acc hc
      have h0 := hc 0 y rfl
      rw [Nat.add_zero] at h0
      have hl : (load (Addr.add ⟨b, off, none⟩ i)).run P w = .ok (.int .u8 y) w := by
        rw [add_none]; simp [load, Sem.run, h0]
      have h1 := ih (i + 1) (acc.push (.int .u8 y)) fun j z hz => by
        have := hc (j + 1) z (by simpa using hz)
        rwa [show off + (i + (j + 1)) = off + (i + 1 + j) from by omega] at this
      simp only [List.length_cons, loadCellsFrom, Sem.run_bind, hl, Result.andThen_ok, h1]
      simp
  refine (key xs 0 #[] fun j y hy => ?_).trans (by simp)
  have hj := (List.getElem?_eq_some_iff.1 hy).1
  obtain ⟨b', off', es, hA, _, hR, hc⟩ := h.at hj
  simp only [Option.some.injEq, Addr.mk.injEq, and_true] at hA
  obtain ⟨rfl, rfl⟩ := hA
  obtain ⟨rfl, _⟩ := hR
  have h2 := hc 0 _ rfl
  have h3 : xs[j] = y := by rw [List.getElem?_eq_getElem hj] at hy; exact Option.some.inj hy
  rw [h3] at h2
  rwa [show off + j * eByte.size + 0 = off + (0 + j) from by simp [eByte]] at h2

theorem push_bytes : ∀ (ns : List Int) (l : List UInt8), ns.foldl (fun r n => r.push (UInt8.ofNat n.toNat)) (bs l) = bs (l ++ Go.Lib.bytesOf ns)
  | [], l => by simp [Go.Lib.bytesOf]
  | n :: ns, l => by
    have e : (bs l).push (UInt8.ofNat n.toNat) = bs (l ++ [UInt8.ofNat n.toNat]) := by simp [bs, ByteArray.push]
    rw [List.foldl_cons, e, push_bytes ns]
    simp [Go.Lib.bytesOf]

theorem x_bytes {P : Program} {S : World → Prop} {L : List (Nat × Value)} {d : Option Tmp} {s t e : TypeId} {x : Operand} {A : Option Addr} {c : Nat} {xs : List Int} {ty : TypeId} {pos : String} {af : Array Edge} {g : Option (Nat × Bool)} (hs : P.underlying s = some (.slice e)) (he : P.underlying e = some (.int .u8)) (ht : P.underlying t = some .string) (hx : ev L x = some (.slice A xs.length c)) (hr : ∀ w, S w → Sl eByte w (Old w) A c xs) : XS P S L ⟨d, .convert s t x, ty, pos, af, g⟩ (.string (bs (Go.Lib.bytesOf xs))) := fun _ _ w hE hS => by
  have h := hr w hS
  have hb : (Conv.bytesToString (.slice A xs.length c)).run P w = .ok (.string (bs (Go.Lib.bytesOf xs))) w := by
    by_cases hn : xs = []
    · subst hn
      cases A with
      | none => rfl
      | some p =>
        have := run_bytesToString (P := P) w p 0 c [] rfl
        exact this
    · obtain ⟨b, off, rfl, _⟩ := h.2.2 hn
      have := run_bytesToString (P := P) w ⟨b, off, none⟩ xs.length c xs (loadCells_sl h)
      rw [this]
      have e2 := push_bytes xs []
      rw [List.nil_append] at e2
      rw [← e2]; rfl
  simp only [execOp, hE.ev hx, convert, Sem.run_bind, run_underlying hs, run_underlying ht, run_underlying he, Result.andThen_ok, hb]
  rfl

theorem c_ownY {M : Nat → Prop} {w0 : World} {rs : List Res} {S : Nat → Prop} {b off c k : Nat} {xs : List Int} {y : Int} (i : Nat) (hi : rs[i]? = some (rSo eByte S (some ⟨b, off, none⟩) c xs)) (hk : k < xs.length) (hy : xs[k] = y) : ∀ w, Held M w0 rs w → w.cell? ⟨b, off + k * 1, none⟩ = some (.int .u8 y) := fun w h => by
  obtain ⟨b', off', es, hA, _, hR, hc⟩ := (h.sl hi).at hk
  simp only [Option.some.injEq, Addr.mk.injEq, and_true] at hA
  obtain ⟨rfl, rfl⟩ := hA
  obtain ⟨rfl, _⟩ := hR
  have := hc 0 _ rfl
  rw [← hy]; exact this

theorem i_ownY {M : Nat → Prop} {w0 w : World} {rs : List Res} {S : Nat → Prop} {A : Option Addr} {c k : Nat} {xs : List Int} (h : Held M w0 rs w) (i : Nat) (hi : rs[i]? = some (rSo eByte S A c xs)) (hk : k < xs.length) : 0 ≤ xs[k] ∧ xs[k] ≤ 255 := by
  obtain ⟨b', off', es, hA, _, hR, hc⟩ := (h.sl hi).at hk
  exact hR.2

theorem x_sliceSH {P : Program} {S : World → Prop} {L : List (Nat × Value)} {d : Option Tmp} {x lo hi : Operand} {t : TypeId} {l : List UInt8} {k k2 : Nat} {m m2 : Int} {q q2 : IntKind} {ty : TypeId} {pos : String} {af : Array Edge} {g : Option (Nat × Bool)} (ht : P.underlying t = some .string) (hx : ev L x = some (.string (bs l))) (hlo : ev L lo = some (.int q m)) (hhi : ev L hi = some (.int q2 m2)) (hm : m = (k : Int)) (hm2 : m2 = (k2 : Int)) (hk : k ≤ k2) (hk2 : k2 ≤ l.length) : XS P S L ⟨d, .slice t x (some lo) (some hi) none, ty, pos, af, g⟩ (.string (bs ((l.drop k).take (k2 - k)))) := fun _ _ _ hE _ => by
  subst hm hm2
  have hsz := bs_size l
  have e : (bs l).extract k k2 = bs ((l.drop k).take (k2 - k)) := by
    refine WideShapes.bytes_inj ?_
    rw [Go.Lib.extract_data]
  simp [execOp, hE.ev hx, hE.ev hlo, hE.ev hhi, Instr.sliceAt, Instr.slice, run_underlying ht, Instr.sliceBounds, Instr.sliceBound, asIntOf, hsz, hk, hk2]
  simpa [hsz] using e

theorem x_conv32 {P : Program} {S : World → Prop} {L : List (Nat × Value)} {d : Option Tmp} {s t : TypeId} {x : Operand} {q : IntKind} {m : Int} {ty : TypeId} {pos : String} {af : Array Edge} {g : Option (Nat × Bool)} {sd : TypeDesc} (hs : P.underlying s = some sd) (ht : P.underlying t = some (.int .i32)) (hx : ev L x = some (.int q m)) (h : -2147483648 ≤ m ∧ m ≤ 2147483647) : XS P S L ⟨d, .convert s t x, ty, pos, af, g⟩ (.int .i32 m) := fun _ _ _ hE _ => by
  have e : IntKind.i32.wrap m = m := IntWalk.i32_in _ h
  simp [execOp, hE.ev hx, convert, run_underlying hs, run_underlying ht, Conv.intToInt, e]

/-- A builder in block b, its own blocks in S, holding the bytes l. -/
def BldIn (T e : TypeId) (B b : Nat) (S : Nat → Prop) (l : List UInt8) (w : World) : Prop :=
  Lib.IsBuilderF T e B b (Lib.byteCells l) w ∧ S b ∧ ∀ p v g, w.heap[b]? = some (.cells #[p, v] T (0, 0)) → v.ownBlock = some g → S g

theorem BldIn.loc {T e : TypeId} {B b : Nat} {S : Nat → Prop} {l : List UInt8} {w w' : World} (hs : ∀ k, S k → w'.heap[k]? = w.heap[k]?) (h : BldIn T e B b S l w) : BldIn T e B b S l w' := by
  obtain ⟨h1, h2, h3⟩ := h
  have key : ∀ p, Lib.BuilderAtF T e B b p (Lib.byteCells l) w → Lib.BuilderAtF T e B b p (Lib.byteCells l) w' := by
    rintro p ⟨hB, v, hb, hown, hne⟩
    refine ⟨hB, v, (hs b h2).trans hb, ⟨hown.1, ?_⟩, hne⟩
    rcases hown.2 with hn | ⟨g, cap, cur, fz, rfl, hbg, hg, rest⟩
    · exact .inl hn
    · exact .inr ⟨g, cap, cur, fz, rfl, hbg, (hs g (h3 _ _ g hb (by simp [Value.ownBlock]))).trans hg, rest⟩
  refine ⟨?_, h2, fun p v g hb hv => h3 p v g ((hs b h2).symm.trans hb) hv⟩
  rcases h1 with h | h
  · exact .inl (key _ h)
  · exact .inr (key _ h)

def rBldT (T e : TypeId) (B b : Nat) (S : Nat → Prop) (l : List UInt8) : Res := ⟨S, BldIn T e B b S l, fun _ _ hs h => BldIn.loc hs h⟩

theorem BldIn.mk {T e : TypeId} {B b : Nat} {l : List UInt8} {w : World} (h : Lib.IsBuilderF T e B b (Lib.byteCells l) w) : BldIn T e B b (Iv B w.heap.size) l w := by
  have hb : B ≤ b ∧ b < w.heap.size := by
    rcases h with h | h
    · exact ⟨h.1, h.lt⟩
    · exact ⟨h.1, h.lt⟩
  refine ⟨h, hb, fun p v g hh hv => ?_⟩
  have key : ∀ q, Lib.BuilderAtF T e B b q (Lib.byteCells l) w → Iv B w.heap.size g := by
    rintro q ⟨_, v', hb', hown, _⟩
    rw [hh] at hb'
    simp only [Option.some.injEq, Obj.cells.injEq, and_true] at hb'
    have e2 : v = v' := by
      have := congrArg (fun a : Array Value => a[1]?) hb'
      simpa using this
    subst e2
    exact hown.lt g hv
  rcases h with h | h
  · exact key _ h
  · exact key _ h

theorem Held.bldCall {T e : TypeId} {w0 w w' : World} {b : Nat} {S : Nat → Prop} {l l' : List UInt8} (h : Held Nob w0 [rBldT T e w0.heap.size b S l] w) (hb : Below w0.heap.size w w') (hi : Lib.IsBuilderF T e w0.heap.size b (Lib.byteCells l') w') : ∃ S', Held Nob w0 [rBldT T e w0.heap.size b S' l'] w' := by
  refine ⟨Iv w0.heap.size w'.heap.size, ?_⟩
  have hb2 : Below w0.heap.size w0 w' := h.below.trans hb
  exact ⟨.of_below hb2, by intro r hr; obtain rfl := List.mem_singleton.1 hr; exact BldIn.mk hi, by intro r hr; obtain rfl := List.mem_singleton.1 hr; exact fun k hk => ⟨.inr hk.1, hk.2⟩, List.pairwise_singleton _ _⟩

theorem Held.toBld {T e : TypeId} {w0 w : World} {b : Nat} {rs : List Res} (h : Held Nob w0 (rBlk b T [.pointer none, .slice none 0 0] :: rs) w) : ∃ S, Held Nob w0 [rBldT T e w0.heap.size b S []] w := by
  have hB : Blk w b T #[.pointer none, .slice none 0 0] := h.ok _ List.mem_cons_self
  have hr := h.rng _ (List.mem_cons_self) b rfl
  have hle : w0.heap.size ≤ b := hr.1.resolve_left fun x => x.elim
  have hi : Lib.IsBuilderF T e w0.heap.size b (Lib.byteCells []) w := .inl ⟨hle, _, hB, by simpa [Lib.byteCells] using World.ownsRowF_nil w w0.heap.size e 1, by simp [Value.ownBlock]⟩
  refine ⟨Iv w0.heap.size w.heap.size, ⟨h.chg, ?_, ?_, List.pairwise_singleton _ _⟩⟩
  · intro r hr; obtain rfl := List.mem_singleton.1 hr; exact BldIn.mk hi
  · intro r hr; obtain rfl := List.mem_singleton.1 hr; exact fun k hk => ⟨.inr hk.1, hk.2⟩

theorem Held.isBld {T e : TypeId} {M : Nat → Prop} {w0 w : World} {B b : Nat} {S : Nat → Prop} {l : List UInt8} {rs : List Res} (h : Held M w0 (rBldT T e B b S l :: rs) w) : Lib.IsBuilderF T e B b (Lib.byteCells l) w := (h.ok _ List.mem_cons_self : BldIn T e B b S l w).1

theorem byteCells_app (a b : List UInt8) : Lib.byteCells (a ++ b) = Lib.byteCells a ++ Lib.byteCells b := by simp [Lib.byteCells]

theorem byteCells_len (a : List UInt8) : (Lib.byteCells a).length = a.length := by simp [Lib.byteCells]

theorem runeCells_ascii {r : Int} (h0 : 0 ≤ r) (h1 : r < 128) : Lib.runeCells r = Lib.byteCells [UInt8.ofNat r.toNat] := by
  rw [← Lib.byteCells_encodeRune]
  unfold Lib.encodeRune Lib.encodeRuneZ
  rw [if_pos ⟨h0, by omega⟩]
  simp [Lib.byteCells]

theorem x_add32 {P : Program} {S : World → Prop} {L : List (Nat × Value)} {d : Option Tmp} {t t' : TypeId} {x y : Operand} {m k : Int} {ty : TypeId} {pos : String} {af : Array Edge} {g : Option (Nat × Bool)} (hx : ev L x = some (.int .i32 m)) (hy : ev L y = some (.int .i32 k)) (h : -2147483648 ≤ m + k ∧ m + k ≤ 2147483647) : XS P S L ⟨d, .binOp .add t x y t', ty, pos, af, g⟩ (.int .i32 (m + k)) := fun _ _ _ hE _ => by
  have e : IntKind.i32.wrap (m + k) = m + k := IntWalk.i32_in _ h
  simp only [execOp, hE.ev hx, hE.ev hy, eqGuard, binOp, Op.intArith, e]; rfl

/-- What a package-level variable holds stays when only new blocks come and blocks behind it change. -/
theorem tab_below {P : Program} {w w' : World} {name : String} {k : IntKind} {zs : List Int} {g : Nat} (hg : P.globalNamed name = some g) (h : Lib.TabIs P w name k zs) (hb : Below w.heap.size w w') : Lib.TabIs P w' name k zs := by
  unfold Lib.TabIs World.var? at h ⊢
  rw [hg] at h ⊢
  simp only [Option.bind_some] at h ⊢
  have hlt : g < w.heap.size := by
    rcases Nat.lt_or_ge g w.heap.size with hlt | hge
    · exact hlt
    · rw [Array.getElem?_eq_none hge] at h; cases h
  rw [hb.block g hlt]
  exact h

theorem tv_2 : TV Tryd.prog 2 false [.int .i64 0] := by
  obtain ⟨i, h1, h2, h3⟩ := tv_parts (show (Tryd.prog.info? 2).map (fun i => (i.zero, i.size)) = some (some (.int .i64 0), 1) from by kernel_rfl)
  exact ⟨⟨_, Tryd.underlying2, rfl⟩, i, _, h1, h2, h3, rfl⟩

theorem tv_5 : TV Tryd.prog 5 false [.int .u8 0] := by
  obtain ⟨i, h1, h2, h3⟩ := tv_parts (show (Tryd.prog.info? 5).map (fun i => (i.zero, i.size)) = some (some (.int .u8 0), 1) from by kernel_rfl)
  exact ⟨⟨_, Tryd.underlying5, rfl⟩, i, _, h1, h2, h3, rfl⟩

theorem tv_51 : TV Tryd.prog 51 false [.slice none 0 0] := by
  obtain ⟨i, h1, h2, h3⟩ := tv_parts (show (Tryd.prog.info? 51).map (fun i => (i.zero, i.size)) = some (some (.slice none 0 0), 1) from by kernel_rfl)
  exact ⟨⟨_, Tryd.underlying51, rfl⟩, i, _, h1, h2, h3, rfl⟩

theorem tv_87 : TV Tryd.prog 87 true [.int .i64 0, .int .i64 0, .int .i64 0, .slice none 0 0] := by
  obtain ⟨i, h1, h2, h3⟩ := tv_parts (show (Tryd.prog.info? 87).map (fun i => (i.zero, i.size)) = some (some (.agg #[.int .i64 0, .int .i64 0, .int .i64 0, .slice none 0 0]), 4) from by kernel_rfl)
  exact ⟨⟨_, Tryd.underlying87, rfl⟩, i, _, h1, h2, h3, rfl⟩

theorem tv_90 : TV Tryd.prog 90 false [.slice none 0 0] := by
  obtain ⟨i, h1, h2, h3⟩ := tv_parts (show (Tryd.prog.info? 90).map (fun i => (i.zero, i.size)) = some (some (.slice none 0 0), 1) from by kernel_rfl)
  exact ⟨⟨_, Tryd.underlying90, rfl⟩, i, _, h1, h2, h3, rfl⟩

theorem tv_92 : TV Tryd.prog 92 true [.int .i64 0, .int .i64 0, .int .i64 0, .slice none 0 0] := by
  obtain ⟨i, h1, h2, h3⟩ := tv_parts (show (Tryd.prog.info? 92).map (fun i => (i.zero, i.size)) = some (some (.agg #[.int .i64 0, .int .i64 0, .int .i64 0, .slice none 0 0]), 4) from by kernel_rfl)
  exact ⟨⟨_, Tryd.underlying92, rfl⟩, i, _, h1, h2, h3, rfl⟩

theorem tv_152 : TV Tryd.prog 152 true [.int .i64 0, .slice none 0 0, .slice none 0 0, .slice none 0 0, .int .i64 0] := by
  obtain ⟨i, h1, h2, h3⟩ := tv_parts (show (Tryd.prog.info? 152).map (fun i => (i.zero, i.size)) = some (some (.agg #[.int .i64 0, .slice none 0 0, .slice none 0 0, .slice none 0 0, .int .i64 0]), 5) from by kernel_rfl)
  exact ⟨⟨_, Tryd.underlying152, rfl⟩, i, _, h1, h2, h3, rfl⟩

theorem tv_161 : TV Tryd.prog 161 true [.pointer none, .slice none 0 0] := by
  obtain ⟨i, h1, h2, h3⟩ := tv_parts (show (Tryd.prog.info? 161).map (fun i => (i.zero, i.size)) = some (some (.agg #[.pointer none, .slice none 0 0]), 2) from by kernel_rfl)
  exact ⟨⟨_, Tryd.underlying161, rfl⟩, i, _, h1, h2, h3, rfl⟩

theorem ts_51 : TSl Tryd.prog 51 2 1 8 := by
  obtain ⟨i, h1, h2, h3, h4⟩ := ts_parts (show (Tryd.prog.info? 2).map (fun i => (i.zero, i.size, i.bytes)) = some (some (.int .i64 0), 1, 8) from by kernel_rfl)
  exact ⟨Tryd.underlying51, i, _, h1, h2, h3, h4, rfl⟩

theorem ts_90 : TSl Tryd.prog 90 152 5 88 := by
  obtain ⟨i, h1, h2, h3, h4⟩ := ts_parts (show (Tryd.prog.info? 152).map (fun i => (i.zero, i.size, i.bytes)) = some (some (.agg #[.int .i64 0, .slice none 0 0, .slice none 0 0, .slice none 0 0, .int .i64 0]), 5, 88) from by kernel_rfl)
  exact ⟨Tryd.underlying90, i, _, h1, h2, h3, h4, rfl⟩

theorem fa_92_0 : ∀ b o w, (Instr.fieldAt 92 (.pointer (some ⟨b, o, none⟩)) 0).run Tryd.prog w = .ok (.pointer (some ⟨b, o + 0, none⟩)) w := by
  obtain ⟨i, z, h1, _, h3, _⟩ := tv_2.info
  exact fun b o w => fieldAt_of (f := 0) Tryd.underlying92 rfl h1 (by rw [h3]; decide) b o w

theorem fa_92_1 : ∀ b o w, (Instr.fieldAt 92 (.pointer (some ⟨b, o, none⟩)) 1).run Tryd.prog w = .ok (.pointer (some ⟨b, o + 1, none⟩)) w := by
  obtain ⟨i, z, h1, _, h3, _⟩ := tv_2.info
  exact fun b o w => fieldAt_of (f := 1) Tryd.underlying92 rfl h1 (by rw [h3]; decide) b o w

theorem fa_92_2 : ∀ b o w, (Instr.fieldAt 92 (.pointer (some ⟨b, o, none⟩)) 2).run Tryd.prog w = .ok (.pointer (some ⟨b, o + 2, none⟩)) w := by
  obtain ⟨i, z, h1, _, h3, _⟩ := tv_2.info
  exact fun b o w => fieldAt_of (f := 2) Tryd.underlying92 rfl h1 (by rw [h3]; decide) b o w

theorem fa_92_3 : ∀ b o w, (Instr.fieldAt 92 (.pointer (some ⟨b, o, none⟩)) 3).run Tryd.prog w = .ok (.pointer (some ⟨b, o + 3, none⟩)) w := by
  obtain ⟨i, z, h1, _, h3, _⟩ := tv_90.info
  exact fun b o w => fieldAt_of (f := 3) Tryd.underlying92 rfl h1 (by rw [h3]; decide) b o w

theorem ts_106 : TSl Tryd.prog 106 9 1 16 := by
  obtain ⟨i, h1, h2, h3, h4⟩ := ts_parts (show (Tryd.prog.info? 9).map (fun i => (i.zero, i.size, i.bytes)) = some (some (.string ByteArray.empty), 1, 16) from by kernel_rfl)
  exact ⟨Tryd.underlying106, i, _, h1, h2, h3, h4, rfl⟩

theorem fa_152_0 : ∀ b o w, (Instr.fieldAt 152 (.pointer (some ⟨b, o, none⟩)) 0).run Tryd.prog w = .ok (.pointer (some ⟨b, o + 0, none⟩)) w := by
  obtain ⟨i, z, h1, _, h3, _⟩ := tv_2.info
  exact fun b o w => fieldAt_of (f := 0) Tryd.underlying152 rfl h1 (by rw [h3]; decide) b o w

theorem fa_152_1 : ∀ b o w, (Instr.fieldAt 152 (.pointer (some ⟨b, o, none⟩)) 1).run Tryd.prog w = .ok (.pointer (some ⟨b, o + 1, none⟩)) w := by
  obtain ⟨i, z, h1, _, h3, _⟩ := tv_51.info
  exact fun b o w => fieldAt_of (f := 1) Tryd.underlying152 rfl h1 (by rw [h3]; decide) b o w

theorem fa_152_2 : ∀ b o w, (Instr.fieldAt 152 (.pointer (some ⟨b, o, none⟩)) 2).run Tryd.prog w = .ok (.pointer (some ⟨b, o + 2, none⟩)) w := by
  obtain ⟨i, z, h1, _, h3, _⟩ := tv_51.info
  exact fun b o w => fieldAt_of (f := 2) Tryd.underlying152 rfl h1 (by rw [h3]; decide) b o w

theorem fa_152_3 : ∀ b o w, (Instr.fieldAt 152 (.pointer (some ⟨b, o, none⟩)) 3).run Tryd.prog w = .ok (.pointer (some ⟨b, o + 3, none⟩)) w := by
  obtain ⟨i, z, h1, _, h3, _⟩ := tv_51.info
  exact fun b o w => fieldAt_of (f := 3) Tryd.underlying152 rfl h1 (by rw [h3]; decide) b o w

theorem fa_152_4 : ∀ b o w, (Instr.fieldAt 152 (.pointer (some ⟨b, o, none⟩)) 4).run Tryd.prog w = .ok (.pointer (some ⟨b, o + 4, none⟩)) w := by
  obtain ⟨i, z, h1, _, h3, _⟩ := tv_2.info
  exact fun b o w => fieldAt_of (f := 4) Tryd.underlying152 rfl h1 (by rw [h3]; decide) b o w

theorem ts_159 : TSl Tryd.prog 159 5 1 1 := by
  obtain ⟨i, h1, h2, h3, h4⟩ := ts_parts (show (Tryd.prog.info? 5).map (fun i => (i.zero, i.size, i.bytes)) = some (some (.int .u8 0), 1, 1) from by kernel_rfl)
  exact ⟨Tryd.underlying159, i, _, h1, h2, h3, h4, rfl⟩

theorem en_47 : ∀ args w, (callFunc 47 args).run Tryd.prog w = .ok (.enter 47 args) w := enters_of Tryd.func47 (by kernel_rfl) rfl

theorem en_48 : ∀ args w, (callFunc 48 args).run Tryd.prog w = .ok (.enter 48 args) w := enters_of Tryd.func48 (by kernel_rfl) rfl

theorem en_49 : ∀ args w, (callFunc 49 args).run Tryd.prog w = .ok (.enter 49 args) w := enters_of Tryd.func49 (by kernel_rfl) rfl

theorem en_50 : ∀ args w, (callFunc 50 args).run Tryd.prog w = .ok (.enter 50 args) w := enters_of Tryd.func50 (by kernel_rfl) rfl

theorem en_51 : ∀ args w, (callFunc 51 args).run Tryd.prog w = .ok (.enter 51 args) w := enters_of Tryd.func51 (by kernel_rfl) rfl

theorem en_52 : ∀ args w, (callFunc 52 args).run Tryd.prog w = .ok (.enter 52 args) w := enters_of Tryd.func52 (by kernel_rfl) rfl

theorem en_54 : ∀ args w, (callFunc 54 args).run Tryd.prog w = .ok (.enter 54 args) w := enters_of Tryd.func54 (by kernel_rfl) rfl

theorem en_55 : ∀ args w, (callFunc 55 args).run Tryd.prog w = .ok (.enter 55 args) w := enters_of Tryd.func55 (by kernel_rfl) rfl

theorem en_60 : ∀ args w, (callFunc 60 args).run Tryd.prog w = .ok (.enter 60 args) w := enters_of Tryd.func60 (by kernel_rfl) rfl

theorem en_61 : ∀ args w, (callFunc 61 args).run Tryd.prog w = .ok (.enter 61 args) w := enters_of Tryd.func61 (by kernel_rfl) rfl

theorem en_93 : ∀ args w, (callFunc 93 args).run Tryd.prog w = .ok (.enter 93 args) w := enters_of Tryd.func93 (by kernel_rfl) rfl

theorem en_97 : ∀ args w, (callFunc 97 args).run Tryd.prog w = .ok (.enter 97 args) w := enters_of Tryd.func97 (by kernel_rfl) rfl

theorem en_98 : ∀ args w, (callFunc 98 args).run Tryd.prog w = .ok (.enter 98 args) w := enters_of Tryd.func98 (by kernel_rfl) rfl

theorem en_100 : ∀ args w, (callFunc 100 args).run Tryd.prog w = .ok (.enter 100 args) w := enters_of Tryd.func100 (by kernel_rfl) rfl

theorem en_101 : ∀ args w, (callFunc 101 args).run Tryd.prog w = .ok (.enter 101 args) w := enters_of Tryd.func101 (by kernel_rfl) rfl

theorem en_103 : ∀ args w, (callFunc 103 args).run Tryd.prog w = .ok (.enter 103 args) w := enters_of Tryd.func103 (by kernel_rfl) rfl

theorem en_104 : ∀ args w, (callFunc 104 args).run Tryd.prog w = .ok (.enter 104 args) w := enters_of Tryd.func104 (by kernel_rfl) rfl

theorem en_108 : ∀ args w, (callFunc 108 args).run Tryd.prog w = .ok (.enter 108 args) w := enters_of Tryd.func108 (by kernel_rfl) rfl

theorem en_111 : ∀ args w, (callFunc 111 args).run Tryd.prog w = .ok (.enter 111 args) w := enters_of Tryd.func111 (by kernel_rfl) rfl

theorem en_134 : ∀ args w, (callFunc 134 args).run Tryd.prog w = .ok (.enter 134 args) w := enters_of Tryd.func134 (by kernel_rfl) rfl

theorem en_139 : ∀ args w, (callFunc 139 args).run Tryd.prog w = .ok (.enter 139 args) w := enters_of Tryd.func139 (by kernel_rfl) rfl

theorem en_140 : ∀ args w, (callFunc 140 args).run Tryd.prog w = .ok (.enter 140 args) w := enters_of Tryd.func140 (by kernel_rfl) rfl

theorem en_141 : ∀ args w, (callFunc 141 args).run Tryd.prog w = .ok (.enter 141 args) w := enters_of Tryd.func141 (by kernel_rfl) rfl

theorem en_142 : ∀ args w, (callFunc 142 args).run Tryd.prog w = .ok (.enter 142 args) w := enters_of Tryd.func142 (by kernel_rfl) rfl

theorem en_144 : ∀ args w, (callFunc 144 args).run Tryd.prog w = .ok (.enter 144 args) w := enters_of Tryd.func144 (by kernel_rfl) rfl

theorem en_145 : ∀ args w, (callFunc 145 args).run Tryd.prog w = .ok (.enter 145 args) w := enters_of Tryd.func145 (by kernel_rfl) rfl

theorem en_146 : ∀ args w, (callFunc 146 args).run Tryd.prog w = .ok (.enter 146 args) w := enters_of Tryd.func146 (by kernel_rfl) rfl

theorem en_165 : ∀ args w, (callFunc 165 args).run Tryd.prog w = .ok (.enter 165 args) w := enters_of Tryd.func165 (by kernel_rfl) rfl

theorem en_166 : ∀ args w, (callFunc 166 args).run Tryd.prog w = .ok (.enter 166 args) w := enters_of Tryd.func166 (by kernel_rfl) rfl

theorem en_167 : ∀ args w, (callFunc 167 args).run Tryd.prog w = .ok (.enter 167 args) w := enters_of Tryd.func167 (by kernel_rfl) rfl

theorem en_178 : ∀ args w, (callFunc 178 args).run Tryd.prog w = .ok (.enter 178 args) w := enters_of Tryd.func178 (by kernel_rfl) rfl

theorem en_185 : ∀ args w, (callFunc 185 args).run Tryd.prog w = .ok (.enter 185 args) w := enters_of Tryd.func185 (by kernel_rfl) rfl

theorem hmix : Tryd.prog.follows .mixedOrders = true := by kernel_rfl

def outB (lo hi n : Int) : Bool := !withinB n lo hi

def allW (xs : List Int) (lo hi : Int) : Bool := !xs.any (outB lo hi)

theorem impl_allWithin (A : Option Addr) (c : Nat) (xs : List Int) (lo hi : Int) (w : World) (h : Sl eInt w (Old w) A c xs) :
    Calls Tryd.prog 54 #[.slice A xs.length c, .int .i64 lo, .int .i64 hi] w fun e w' => e = .returned (.bool (allW xs lo hi)) ∧ w = w' := by
  have hlen := h.len
  have H := Lib.hid h; clear h
  unfold allW
  go_enter Tryd.func54, Tryd.ntmps54
  go_wp2
  go_loop [8, 11] (fun _ i => ∃ k : Nat, k ≤ xs.length ∧ i = .int .i64 k ∧ Hid ((xs.take k).any (outB lo hi) = false)) (fun _ i => xs.length - (intOf i).toNat)
  case atStart => exact ⟨0, Nat.zero_le _, rfl, rfl⟩
  case round =>
    obtain ⟨k, hk, rfl, HN⟩ := hrel
    by_cases hlt : k < xs.length
    · have hltz : (k : Int) < (xs.length : Int) := by omega
      obtain ⟨b, off, es, rfl, hb, ⟨rfl, _⟩, hc⟩ := H.out.at1 rfl hlt
      have d0 : w.cell? ⟨b, off + k, none⟩ = some (.int .i64 xs[k]) := hc _ rfl
      clear hc
      have HT : Hid (outB lo hi xs[k] = true → xs.any (outB lo hi) = true) := fun e => any_hit hlt e
      have HS : Hid (outB lo hi xs[k] = false → (xs.take (k + 1)).any (outB lo hi) = false) := fun e => any_step hlt HN.out e
      generalize xs[k] = y at d0 HT HS
      cases q1 : withinB y lo hi
      · go_wp2_with (go_at_call 104; refine (impl_within _ _ _ _).mono ?_; rintro e w' ⟨rfl, rfl⟩; rw [q1])
        go_ret
        exact ⟨by rw [HT.out (by unfold outB; rw [q1]; rfl)]; rfl, rfl⟩
      · go_wp2_with (go_at_call 104; refine (impl_within _ _ _ _).mono ?_; rintro e w' ⟨rfl, rfl⟩; rw [q1])
        go_round
        case rel => exact ⟨k + 1, by omega, by go_num, HS.out (by unfold outB; rw [q1]; rfl)⟩
        case measure => simp [intOf]; omega
    · have hltz : ¬ (k : Int) < (xs.length : Int) := by omega
      obtain rfl : k = xs.length := by omega
      go_wp2
      go_ret
      have hn := HN.out
      rw [List.take_length] at hn
      exact ⟨ret_bool (by rw [hn]; rfl), rfl⟩

theorem left_ok {l : Int} {n : Nat} (h : ¬ left l n < 0) : left l n = l - (n : Int) ∧ (n : Int) ≤ l := by
  unfold left at *; split at h <;> simp_all <;> omega

theorem allW_mem {xs : List Int} {lo hi : Int} (h : allW xs lo hi = true) : ∀ x ∈ xs, lo ≤ x ∧ x ≤ hi := by
  intro x hx
  unfold allW outB at h
  simp at h
  exact withinB_true.1 (h x hx)

def noNaN (_ : Int) : Bool := false

def cmpI (x y : Int) : Int := if x < y then -1 else if y < x then 1 else 0

def cmpL : List Int → List Int → Int
  | [], [] => 0
  | [], _ :: _ => -1
  | _ :: _, [] => 1
  | x :: xs, y :: ys => if x < y then -1 else if y < x then 1 else cmpL xs ys

theorem cmpL_step {a b : List Int} {k : Nat} (ha : k < a.length) (hb : k < b.length) : cmpL (a.drop k) (b.drop k) = if a[k] < b[k] then -1 else if b[k] < a[k] then 1 else cmpL (a.drop (k + 1)) (b.drop (k + 1)) := by
  rw [List.drop_eq_getElem_cons ha, List.drop_eq_getElem_cons hb, cmpL]

theorem cmpL_end (a b : List Int) (k : Nat) (h : a.length ≤ k ∨ b.length ≤ k) (ha : k ≤ a.length) (hb : k ≤ b.length) : cmpL (a.drop k) (b.drop k) = if a.length < b.length then -1 else if b.length < a.length then 1 else 0 := by
  by_cases h1 : k < a.length
  · rw [show b.drop k = [] from List.drop_of_length_le (by omega), List.drop_eq_getElem_cons h1, cmpL, if_neg (by omega), if_pos (by omega)]
  · by_cases h2 : k < b.length
    · rw [show a.drop k = [] from List.drop_of_length_le (by omega), List.drop_eq_getElem_cons h2, cmpL, if_pos (by omega)]
    · rw [List.drop_of_length_le (by omega), List.drop_of_length_le (by omega), cmpL, if_neg (by omega), if_neg (by omega)]

theorem rg_step {p : Nat → Bool} {k : Nat} (h : (List.range k).any p = false) (hk : p k = false) : (List.range (k + 1)).any p = false := by
  rw [List.range_succ, List.any_append, h]; simp [hk]

theorem rg_hit {p : Nat → Bool} {k n : Nat} (hk : k < n) (h : p k = true) : (List.range n).any p = true :=
  List.any_eq_true.2 ⟨k, List.mem_range.2 hk, h⟩

def validMR (m : tMulti) (r : tMultiRule) : Bool :=
  withinB r.1 0 (m.2.2.1 - 1) && withinB r.2.2.2.2 0 (m.2.2.1 - 1) && ((r.2.1.length : Int) == m.1) && ((r.2.2.1.length : Int) == m.1) && ((r.2.2.2.1.length : Int) == m.1) && allW r.2.1 0 (m.2.1 - 1) && allW r.2.2.1 0 (m.2.1 - 1) && allW r.2.2.2.1 (-1) 1

def cmpMR (a b : tMultiRule) : Int := if a.1 = b.1 then cmpL a.2.1 b.2.1 else if a.1 < b.1 then -1 else 1

def beforeMR (a b : tMultiRule) : Bool := decide (cmpMR a b < 0)

def badMR (m : tMulti) (k : Nat) : Bool := !validMR m (m.2.2.2[k]?.getD default) || (decide (0 < k) && !beforeMR (m.2.2.2[k - 1]?.getD default) (m.2.2.2[k]?.getD default))

def validMulti (m : tMulti) : Bool :=
  withinB m.1 2 3 && withinB m.2.1 2 3 && withinB m.2.2.1 1 16 && decide ((m.2.2.2.length : Int) ≤ 60) && !(List.range m.2.2.2.length).any (badMR m)

theorem outB_eq (lo hi x : Int) : outB lo hi x = !withinB x lo hi := by
  unfold outB withinB; grind

def rowB (xs : List Int) (t lo hi : Int) : Bool := ((xs.length : Int) == t) && allW xs lo hi

set_option maxRecDepth 100000 in
set_option maxHeartbeats 4000000 in
theorem cmp_isNaN (a0 : Int) (w : World)  :
    Calls Tryd.prog 185 #[.int .i64 a0] w fun e w' => e = .returned (.bool (noNaN a0)) ∧ w = w' := by
  have HH1 := Held.start Nob w
  refine enter (n := 6) Tryd.func185 rfl rfl rfl fun a_2 HE3 => ?_
  refine wp_seq ?_
  refine rg ?_
  refine pl_x HE3 HH1 (wt0 rfl) (x_assign rfl) rfl rfl fun a_4 HE5 => ?_
  refine wpList_nil ?_
  clear a_2 HE3
  refine nrm ?_
  refine wp_seq ?_
  refine rg ?_
  refine pl_x HE5 HH1 (wt0 rfl) (x_move rfl) rfl rfl fun a_6 HE7 => ?_
  refine pl_x HE7 HH1 (wt0 rfl) (x_move rfl) rfl rfl fun a_8 HE9 => ?_
  refine pl_x HE9 HH1 (wt0 rfl) (x_neq rfl rfl) rfl rfl fun a_10 HE11 => ?_
  refine pl_x HE11 HH1 (wt0 rfl) (x_assign rfl) rfl rfl fun a_12 HE13 => ?_
  refine wpList_nil ?_
  clear a_4 HE5 a_6 HE7 a_8 HE9 a_10 HE11
  refine nrm ?_
  refine wp_ret ?_
  refine ret1 HE13 rfl (rv_tmp rfl) ?_
  have hF : (noNaN a0) = (a0 != a0) := by
    first | rfl | (simp [noNaN]; done) | (simp [noNaN]; omega) | grind [noNaN]
  exact ⟨by first | (rw [hF] <;> rfl) | rfl | (rw [hF]; simp only [Ending.returned.injEq, Value.slice.injEq, true_and, and_true]; first | omega | (simp; done)) | (rw [hF]; simp; omega), rfl⟩

set_option maxRecDepth 100000 in
set_option maxHeartbeats 4000000 in
theorem cmp_Compare (a0 : Int) (a1 : Int) (w : World)  :
    Calls Tryd.prog 178 #[.int .i64 a0, .int .i64 a1] w fun e w' => e = .returned (.int .i64 (cmpI a0 a1)) ∧ w = w' := by
  have HH1 := Held.start Nob w
  refine enter (n := 20) Tryd.func178 rfl rfl rfl fun a_2 HE3 => ?_
  refine wp_seq ?_
  refine rg ?_
  refine pl_x HE3 HH1 (wt0 rfl) (x_assign rfl) rfl rfl fun a_4 HE5 => ?_
  refine wpList_nil ?_
  clear a_2 HE3
  refine nrm ?_
  refine wp_seq ?_
  refine rg ?_
  refine pl_x HE5 HH1 (wt0 rfl) (x_move rfl) rfl rfl fun a_6 HE7 => ?_
  refine pl fun K_8 hK9 => ?_
  refine st_call HE7 (wt0 rfl) rfl rfl rfl en_185 rfl rfl (cmp_isNaN a0 _ ) fun e w' hr => ?_
  obtain ⟨rfl, rfl⟩ := hr
  refine ⟨_, rfl, fun a_10 HE11 => hK9 _ _ ?_⟩
  refine pl_x HE11 HH1 (wt0 rfl) (x_assign rfl) rfl rfl fun a_12 HE13 => ?_
  refine wpList_nil ?_
  clear a_4 HE5 a_6 HE7 a_10 HE11 hK9 K_8
  refine nrm ?_
  refine wp_seq ?_
  refine rg ?_
  refine pl_x HE13 HH1 (wt0 rfl) (x_move rfl) rfl rfl fun a_14 HE15 => ?_
  refine pl fun K_16 hK17 => ?_
  refine st_call HE15 (wt0 rfl) rfl rfl rfl en_185 rfl rfl (cmp_isNaN a1 _ ) fun e w' hr => ?_
  obtain ⟨rfl, rfl⟩ := hr
  refine ⟨_, rfl, fun a_18 HE19 => hK17 _ _ ?_⟩
  refine pl_x HE19 HH1 (wt0 rfl) (x_assign rfl) rfl rfl fun a_20 HE21 => ?_
  refine wpList_nil ?_
  clear a_12 HE13 a_14 HE15 a_18 HE19 hK17 K_16
  refine nrm ?_
  refine wp_seq ?_
  refine wp_seq ?_
  refine rg ?_
  refine pl_x HE21 HH1 (wt0 rfl) (x_move rfl) rfl rfl fun a_22 HE23 => ?_
  refine wpList_nil ?_
  clear a_20 HE21
  refine nrm ?_
  refine cndF HE23 rfl rfl ?_
  refine wp_skip ?_
  refine nrm ?_
  refine wp_seq ?_
  refine wp_seq ?_
  refine rg ?_
  refine pl_x HE23 HH1 (wt0 rfl) (x_move rfl) rfl rfl fun a_24 HE25 => ?_
  refine wpList_nil ?_
  clear a_22 HE23
  refine nrm ?_
  refine cndF HE25 rfl rfl ?_
  refine wp_skip ?_
  refine nrm ?_
  refine wp_seq ?_
  refine wp_seq ?_
  refine rg ?_
  refine pl_x HE25 HH1 (wt0 rfl) (x_move rfl) rfl rfl fun a_26 HE27 => ?_
  refine pl_x HE27 HH1 (wt0 rfl) (x_move rfl) rfl rfl fun a_28 HE29 => ?_
  refine pl_x HE29 HH1 (wt0 rfl) (x_lss rfl rfl) rfl rfl fun a_30 HE31 => ?_
  refine wpList_nil ?_
  clear a_24 HE25 a_26 HE27 a_28 HE29
  refine nrm ?_
  refine cnd_d HE31 rfl (fun hc23 => ?_) (fun hc23 => ?_)
  · refine wp_seq ?_
    refine rg ?_
    refine pl_x HE31 HH1 (wt0 rfl) (x_assign rfl) rfl rfl fun a_32 HE33 => ?_
    refine wpList_nil ?_
    clear a_30 HE31
    refine nrm ?_
    refine wp_ret ?_
    refine (thn_ret ?_)
    refine ret1 HE33 rfl (rv_tmp rfl) ?_
    have hF : (cmpI a0 a1) = -1 := by
      first | (unfold cmpI; rw [if_pos (by omega)]; done) | (unfold cmpI; rw [if_neg (by omega), if_pos (by omega)]; done) | (unfold cmpI; rw [if_neg (by omega), if_neg (by omega)])
    exact ⟨by first | (rw [hF] <;> rfl) | rfl | (rw [hF]; simp only [Ending.returned.injEq, Value.slice.injEq, true_and, and_true]; first | omega | (simp; done)) | (rw [hF]; simp; omega), rfl⟩
  · refine wp_skip ?_
    refine nrm ?_
    refine wp_seq ?_
    refine wp_seq ?_
    refine rg ?_
    refine pl_x HE31 HH1 (wt0 rfl) (x_move rfl) rfl rfl fun a_34 HE35 => ?_
    refine pl_x HE35 HH1 (wt0 rfl) (x_move rfl) rfl rfl fun a_36 HE37 => ?_
    refine pl_x HE37 HH1 (wt0 rfl) (x_gtr rfl rfl) rfl rfl fun a_38 HE39 => ?_
    refine wpList_nil ?_
    clear a_30 HE31 a_34 HE35 a_36 HE37
    refine nrm ?_
    refine cnd_d HE39 rfl (fun hc24 => ?_) (fun hc24 => ?_)
    · refine wp_seq ?_
      refine rg ?_
      refine pl_x HE39 HH1 (wt0 rfl) (x_assign rfl) rfl rfl fun a_40 HE41 => ?_
      refine wpList_nil ?_
      clear a_38 HE39
      refine nrm ?_
      refine wp_ret ?_
      refine (thn_ret ?_)
      refine ret1 HE41 rfl (rv_tmp rfl) ?_
      have hF : (cmpI a0 a1) = 1 := by
        first | (unfold cmpI; rw [if_pos (by omega)]; done) | (unfold cmpI; rw [if_neg (by omega), if_pos (by omega)]; done) | (unfold cmpI; rw [if_neg (by omega), if_neg (by omega)])
      exact ⟨by first | (rw [hF] <;> rfl) | rfl | (rw [hF]; simp only [Ending.returned.injEq, Value.slice.injEq, true_and, and_true]; first | omega | (simp; done)) | (rw [hF]; simp; omega), rfl⟩
    · refine wp_skip ?_
      refine nrm ?_
      refine wp_seq ?_
      refine rg ?_
      refine pl_x HE39 HH1 (wt0 rfl) (x_assign rfl) rfl rfl fun a_42 HE43 => ?_
      refine wpList_nil ?_
      clear a_38 HE39
      refine nrm ?_
      refine wp_ret ?_
      refine ret1 HE43 rfl (rv_tmp rfl) ?_
      have hF : (cmpI a0 a1) = 0 := by
        first | (unfold cmpI; rw [if_pos (by omega)]; done) | (unfold cmpI; rw [if_neg (by omega), if_pos (by omega)]; done) | (unfold cmpI; rw [if_neg (by omega), if_neg (by omega)])
      exact ⟨by first | (rw [hF] <;> rfl) | rfl | (rw [hF]; simp only [Ending.returned.injEq, Value.slice.injEq, true_and, and_true]; first | omega | (simp; done)) | (rw [hF]; simp; omega), rfl⟩

set_option maxRecDepth 100000 in
set_option maxHeartbeats 4000000 in
theorem slices_Compare (A0 : Option Addr) (c0 : Nat) (a0 : (List Int)) (A1 : Option Addr) (c1 : Nat) (a1 : (List Int)) (w : World) (h0 : Sl eInt w (Old w) A0 c0 a0) (h1 : Sl eInt w (Old w) A1 c1 a1) :
    Calls Tryd.prog 167 #[.slice A0 a0.length c0, .slice A1 a1.length c1] w fun e w' => e = .returned (.int .i64 (cmpL a0 a1)) ∧ Below w.heap.size w w' := by
  have l0 := h0.len
  have l1 := h1.len
  have HH1 := Held.start Nob w
  refine enter (n := 36) Tryd.func167 rfl rfl rfl fun a_2 HE3 => ?_
  refine wp_seq ?_
  refine rg ?_
  refine pl_x HE3 HH1 (wt0 rfl) (x_assign rfl) rfl rfl fun a_4 HE5 => ?_
  refine wpList_nil ?_
  clear a_2 HE3
  refine nrm ?_
  refine wp_seq ?_
  refine wp_seq ?_
  refine rg ?_
  refine pl_x HE5 HH1 (wt0 rfl) (x_move rfl) rfl rfl fun a_6 HE7 => ?_
  refine pl_x HE7 HH1 (wt0 rfl) (x_len Tryd.underlying51 rfl) rfl rfl fun a_8 HE9 => ?_
  refine pl_x HE9 HH1 (wt0 rfl) (x_move rfl) rfl rfl fun a_10 HE11 => ?_
  refine wpList_nil ?_
  clear a_4 HE5 a_6 HE7 a_8 HE9
  refine nrm ?_
  refine wp_block ?_
  refine lp (fun m a w' => ∃ (k : Nat), m = a0.length - k ∧ Env 36 [(11, .int .i64 (k : Int)), (0, .slice A0 (a0.length) c0), (1, .slice A1 (a1.length) c1), (9, .slice A0 (a0.length) c0), (10, .int .i64 ((a0.length : Int)))] a ∧ Held Nob w [] w' ∧ (k ≤ a0.length) ∧ (k ≤ a1.length) ∧ (cmpL a0 a1 = cmpL (a0.drop k) (a1.drop k))) (a0.length - (0)) ?_ ?_
  · exact ⟨0, rfl, HE11.sub ⟨(lkI rfl (by first | rfl | omega | (simp []; done))), rfl, rfl, rfl, rfl, trivial⟩, (HH1.sel [] (by decide) rfl), (by first | omega | assumption | (simp; done) | simp_all), (by first | omega | assumption | (simp; done) | simp_all), (by rfl)⟩
  · rintro m a_12 w' ⟨k, rfl, HE13, HH14, p21_0, p21_1, p21_2⟩
    refine wp_seq ?_
    refine rg ?_
    refine pl_x HE13 HH14 (wt0 rfl) (x_lss rfl rfl) rfl rfl fun a_15 HE16 => ?_
    refine wpList_nil ?_
    clear a_10 HE11 HH1 a_12 HE13
    refine nrm ?_
    refine wp_seq ?_
    refine cnd_d HE16 rfl (fun hc22 => ?_) (fun hc22 => ?_)
    · refine wp_skip ?_
      refine nrm ?_
      refine wp_seq ?_
      refine wp_block ?_
      refine wp_seq ?_
      refine rg ?_
      refine pl_x HE16 HH14 (wt0 rfl) (x_move rfl) rfl rfl fun a_17 HE18 => ?_
      have ke23 : k < a0.length := by omega
      obtain ⟨be23, fe23, ese23, Ae23, Re23, De23⟩ := el_old h0 ke23
      obtain ⟨e23, xe23⟩ : ∃ x_, x_ = a0[k] := ⟨_, rfl⟩
      rw [← xe23] at Re23
      have Qe23 := Re23
      obtain ⟨rfl, ie23⟩ := Re23
      have je23 := ie23; unfold I64 at je23
      refine pl_x HE18 HH14 (wt0 rfl) (x_indexAddr ts_51 rfl rfl Ae23 rfl ke23) rfl rfl fun a_19 HE20 => ?_
      refine pl_x HE20 HH14 (wt0 rfl) (x_load1 tv_2 rfl (c_old (De23 0 _ rfl))) rfl rfl fun a_21 HE22 => ?_
      refine pl_x HE22 HH14 (wt0 rfl) (x_assign rfl) rfl rfl fun a_23 HE24 => ?_
      refine pl_x HE24 HH14 (wt0 rfl) (x_assign rfl) rfl rfl fun a_25 HE26 => ?_
      refine wpList_nil ?_
      clear a_15 HE16 a_17 HE18 a_19 HE20 a_21 HE22 a_23 HE24
      refine nrm ?_
      refine wp_seq ?_
      refine wp_seq ?_
      refine rg ?_
      refine pl_x HE26 HH14 (wt0 rfl) (x_move rfl) rfl rfl fun a_27 HE28 => ?_
      refine pl_x HE28 HH14 (wt0 rfl) (x_move rfl) rfl rfl fun a_29 HE30 => ?_
      refine pl_x HE30 HH14 (wt0 rfl) (x_len Tryd.underlying51 rfl) rfl rfl fun a_31 HE32 => ?_
      refine pl_x HE32 HH14 (wt0 rfl) (x_geq rfl rfl) rfl rfl fun a_33 HE34 => ?_
      refine wpList_nil ?_
      clear a_25 HE26 a_27 HE28 a_29 HE30 a_31 HE32
      refine nrm ?_
      refine cnd_d HE34 rfl (fun hc24 => ?_) (fun hc24 => ?_)
      · refine wp_seq ?_
        refine rg ?_
        refine pl_x HE34 HH14 (wt0 rfl) (x_assign rfl) rfl rfl fun a_35 HE36 => ?_
        refine wpList_nil ?_
        clear a_33 HE34
        refine nrm ?_
        refine wp_ret ?_
        refine (thn_ret (blk_ret (thn_ret (thn_ret (blk_ret (thn_ret ?_))))))
        refine ret1 HE36 rfl (rv_tmp rfl) ?_
        have hF : (cmpL a0 a1) = 1 := by
          rw [p21_2]; first | (rw [cmpL_end a0 a1 k (by omega) (by omega) (by omega)]; grind) | (rw [cmpL_step (by omega) (by omega)]; grind [cmpI])
        exact ⟨by first | (rw [hF] <;> rfl) | rfl | (rw [hF]; simp only [Ending.returned.injEq, Value.slice.injEq, true_and, and_true]; first | omega | (simp; done)) | (rw [hF]; simp; omega), HH14.below⟩
      · refine wp_skip ?_
        refine nrm ?_
        refine wp_seq ?_
        refine rg ?_
        refine pl_x HE34 HH14 (wt0 rfl) (x_move rfl) rfl rfl fun a_37 HE38 => ?_
        refine pl_x HE38 HH14 (wt0 rfl) (x_move rfl) rfl rfl fun a_39 HE40 => ?_
        have ke25 : k < a1.length := by omega
        obtain ⟨be25, fe25, ese25, Ae25, Re25, De25⟩ := el_old h1 ke25
        obtain ⟨e25, xe25⟩ : ∃ x_, x_ = a1[k] := ⟨_, rfl⟩
        rw [← xe25] at Re25
        have Qe25 := Re25
        obtain ⟨rfl, ie25⟩ := Re25
        have je25 := ie25; unfold I64 at je25
        refine pl_x HE40 HH14 (wt0 rfl) (x_indexAddr ts_51 rfl rfl Ae25 rfl ke25) rfl rfl fun a_41 HE42 => ?_
        refine pl_x HE42 HH14 (wt0 rfl) (x_load1 tv_2 rfl (c_old (De25 0 _ rfl))) rfl rfl fun a_43 HE44 => ?_
        refine pl_x HE44 HH14 (wt0 rfl) (x_assign rfl) rfl rfl fun a_45 HE46 => ?_
        refine wpList_nil ?_
        clear a_33 HE34 a_37 HE38 a_39 HE40 a_41 HE42 a_43 HE44
        refine nrm ?_
        refine wp_seq ?_
        refine rg ?_
        refine pl_x HE46 HH14 (wt0 rfl) (x_move rfl) rfl rfl fun a_47 HE48 => ?_
        refine pl_x HE48 HH14 (wt0 rfl) (x_move rfl) rfl rfl fun a_49 HE50 => ?_
        refine pl fun K_51 hK52 => ?_
        refine st_call HE50 (wt0 rfl) rfl rfl rfl en_178 rfl rfl (cmp_Compare e23 e25 _ ) fun e w' hr => ?_
        obtain ⟨rfl, rfl⟩ := hr
        refine ⟨_, rfl, fun a_53 HE54 => hK52 _ _ ?_⟩
        refine pl_x HE54 HH14 (wt0 rfl) (x_assign rfl) rfl rfl fun a_55 HE56 => ?_
        refine wpList_nil ?_
        clear a_45 HE46 a_47 HE48 a_49 HE50 a_53 HE54 hK52 K_51
        refine nrm ?_
        refine wp_seq ?_
        refine rg ?_
        refine pl_x HE56 HH14 (wt0 rfl) (x_move rfl) rfl rfl fun a_57 HE58 => ?_
        refine pl_x HE58 HH14 (wt0 rfl) (x_neq rfl rfl) rfl rfl fun a_59 HE60 => ?_
        refine wpList_nil ?_
        clear a_55 HE56 a_57 HE58
        refine nrm ?_
        refine cnd_ne HE60 rfl (fun hc27 => ?_) (fun hc27 => ?_)
        · refine wp_seq ?_
          refine rg ?_
          refine pl_x HE60 HH14 (wt0 rfl) (x_move rfl) rfl rfl fun a_61 HE62 => ?_
          refine pl_x HE62 HH14 (wt0 rfl) (x_assign rfl) rfl rfl fun a_63 HE64 => ?_
          refine wpList_nil ?_
          clear a_59 HE60 a_61 HE62
          refine nrm ?_
          refine wp_ret ?_
          refine (blk_ret (thn_ret (thn_ret (blk_ret (thn_ret ?_)))))
          refine ret1 HE64 rfl (rv_tmp rfl) ?_
          have hF : (cmpL a0 a1) = (cmpI e23 e25) := by
            rw [p21_2]; first | (rw [cmpL_end a0 a1 k (by omega) (by omega) (by omega)]; grind) | (rw [cmpL_step (by omega) (by omega)]; grind [cmpI])
          exact ⟨by first | (rw [hF] <;> rfl) | rfl | (rw [hF]; simp only [Ending.returned.injEq, Value.slice.injEq, true_and, and_true]; first | omega | (simp; done)) | (rw [hF]; simp; omega), HH14.below⟩
        · refine wp_skip ?_
          refine blk_n ?_
          refine nrm ?_
          refine rg ?_
          refine pl_x HE60 HH14 (wt0 rfl) (x_add rfl rfl (by exact ⟨by omega, by omega⟩)) rfl rfl fun a_65 HE66 => ?_
          refine pl_x HE66 HH14 (wt0 rfl) (x_move rfl) rfl rfl fun a_67 HE68 => ?_
          refine wpList_nil ?_
          clear a_59 HE60 a_65 HE66
          exact nrm ⟨a0.length - (k + 1), (by omega), k + 1, rfl, HE68.sub ⟨(lkI rfl (by first | rfl | omega | (simp [p21_0, p21_1, p21_2, hc22, xe23, hc24, xe25, hc27]; done))), rfl, rfl, rfl, rfl, trivial⟩, (HH14.sel [] (by decide) rfl), (by first | omega | assumption | (simp; done) | simp_all), (by first | omega | assumption | (simp; done) | simp_all), (by rw [p21_2, cmpL_step (by omega) (by omega)]; grind [cmpI])⟩
    · refine wp_exit ?_
      refine (thn_exit (thn_exit (blk_hit ?_)))
      refine nrm ?_
      refine wp_seq ?_
      refine wp_seq ?_
      refine rg ?_
      refine pl_x HE16 HH14 (wt0 rfl) (x_move rfl) rfl rfl fun a_69 HE70 => ?_
      refine pl_x HE70 HH14 (wt0 rfl) (x_len Tryd.underlying51 rfl) rfl rfl fun a_71 HE72 => ?_
      refine pl_x HE72 HH14 (wt0 rfl) (x_move rfl) rfl rfl fun a_73 HE74 => ?_
      refine pl_x HE74 HH14 (wt0 rfl) (x_len Tryd.underlying51 rfl) rfl rfl fun a_75 HE76 => ?_
      refine pl_x HE76 HH14 (wt0 rfl) (x_lss rfl rfl) rfl rfl fun a_77 HE78 => ?_
      refine wpList_nil ?_
      clear a_15 HE16 a_69 HE70 a_71 HE72 a_73 HE74 a_75 HE76
      refine nrm ?_
      refine cnd_d HE78 rfl (fun hc28 => ?_) (fun hc28 => ?_)
      · refine wp_seq ?_
        refine rg ?_
        refine pl_x HE78 HH14 (wt0 rfl) (x_assign rfl) rfl rfl fun a_79 HE80 => ?_
        refine wpList_nil ?_
        clear a_77 HE78
        refine nrm ?_
        refine wp_ret ?_
        refine (thn_ret ?_)
        refine ret1 HE80 rfl (rv_tmp rfl) ?_
        have hF : (cmpL a0 a1) = -1 := by
          rw [p21_2]; first | (rw [cmpL_end a0 a1 k (by omega) (by omega) (by omega)]; grind) | (rw [cmpL_step (by omega) (by omega)]; grind [cmpI])
        exact ⟨by first | (rw [hF] <;> rfl) | rfl | (rw [hF]; simp only [Ending.returned.injEq, Value.slice.injEq, true_and, and_true]; first | omega | (simp; done)) | (rw [hF]; simp; omega), HH14.below⟩
      · refine wp_skip ?_
        refine nrm ?_
        refine wp_seq ?_
        refine rg ?_
        refine pl_x HE78 HH14 (wt0 rfl) (x_assign rfl) rfl rfl fun a_81 HE82 => ?_
        refine wpList_nil ?_
        clear a_77 HE78
        refine nrm ?_
        refine wp_ret ?_
        refine ret1 HE82 rfl (rv_tmp rfl) ?_
        have hF : (cmpL a0 a1) = 0 := by
          rw [p21_2]; first | (rw [cmpL_end a0 a1 k (by omega) (by omega) (by omega)]; grind) | (rw [cmpL_step (by omega) (by omega)]; grind [cmpI])
        exact ⟨by first | (rw [hF] <;> rfl) | rfl | (rw [hF]; simp only [Ending.returned.injEq, Value.slice.injEq, true_and, and_true]; first | omega | (simp; done)) | (rw [hF]; simp; omega), HH14.below⟩

set_option maxRecDepth 100000 in
set_option maxHeartbeats 4000000 in
theorem spec_l01Compare (A0 : Option Addr) (c0 : Nat) (a0 : (List Int)) (A1 : Option Addr) (c1 : Nat) (a1 : (List Int)) (w : World) (h0 : Sl eInt w (Old w) A0 c0 a0) (h1 : Sl eInt w (Old w) A1 c1 a1) :
    Calls Tryd.prog 165 #[.slice A0 a0.length c0, .slice A1 a1.length c1] w fun e w' => e = .returned (.int .i64 (cmpL a0 a1)) ∧ Below w.heap.size w w' := by
  have l0 := h0.len
  have l1 := h1.len
  have HH1 := Held.start Nob w
  refine enter (n := 46) Tryd.func165 rfl rfl rfl fun a_2 HE3 => ?_
  refine wp_seq ?_
  refine rg ?_
  refine pl_x HE3 HH1 (wt0 rfl) (x_assign rfl) rfl rfl fun a_4 HE5 => ?_
  refine wpList_nil ?_
  clear a_2 HE3
  refine nrm ?_
  refine wp_seq ?_
  refine wp_seq ?_
  refine rg ?_
  refine pl_x HE5 HH1 (wt0 rfl) (x_assign rfl) rfl rfl fun a_6 HE7 => ?_
  refine wpList_nil ?_
  clear a_4 HE5
  refine nrm ?_
  refine wp_block ?_
  refine lp (fun m a w' => ∃ (k : Nat), m = a0.length - k ∧ Env 46 [(5, .int .i64 (k : Int)), (0, .slice A0 (a0.length) c0), (1, .slice A1 (a1.length) c1)] a ∧ Held Nob w [] w' ∧ (k ≤ a0.length) ∧ (k ≤ a1.length) ∧ (cmpL a0 a1 = cmpL (a0.drop k) (a1.drop k))) (a0.length - (0)) ?_ ?_
  · exact ⟨0, rfl, HE7.sub ⟨(lkI rfl (by first | rfl | omega | (simp []; done))), rfl, rfl, trivial⟩, (HH1.sel [] (by decide) rfl), (by first | omega | assumption | (simp; done) | simp_all), (by first | omega | assumption | (simp; done) | simp_all), (by rfl)⟩
  · rintro m a_8 w' ⟨k, rfl, HE9, HH10, p21_0, p21_1, p21_2⟩
    refine wp_seq ?_
    refine wp_seq ?_
    refine rg ?_
    refine pl_x HE9 HH10 (wt0 rfl) (x_move rfl) rfl rfl fun a_11 HE12 => ?_
    refine pl_x HE12 HH10 (wt0 rfl) (x_move rfl) rfl rfl fun a_13 HE14 => ?_
    refine pl_x HE14 HH10 (wt0 rfl) (x_len Tryd.underlying51 rfl) rfl rfl fun a_15 HE16 => ?_
    refine pl_x HE16 HH10 (wt0 rfl) (x_lss rfl rfl) rfl rfl fun a_17 HE18 => ?_
    refine pl_x HE18 HH10 (wt0 rfl) (x_move rfl) rfl rfl fun a_19 HE20 => ?_
    by_cases hc22 : (k : Int) < (a0.length : Int)
    · refine pl_x HE20 HH10 (wtT HE20 rfl rfl rfl (decide_eq_true hc22)) (x_move rfl) rfl rfl fun a_21 HE22 => ?_
      refine pl_x HE22 HH10 (wtT HE22 rfl rfl rfl (decide_eq_true hc22)) (x_move rfl) rfl rfl fun a_23 HE24 => ?_
      refine pl_x HE24 HH10 (wtT HE24 rfl rfl rfl (decide_eq_true hc22)) (x_len Tryd.underlying51 rfl) rfl rfl fun a_25 HE26 => ?_
      refine pl_x HE26 HH10 (wtT HE26 rfl rfl rfl (decide_eq_true hc22)) (x_lss rfl rfl) rfl rfl fun a_27 HE28 => ?_
      refine pl_x HE28 HH10 (wt0 rfl) (x_pickT rfl (decide_eq_true hc22) rfl) rfl rfl fun a_29 HE30 => ?_
      refine wpList_nil ?_
      clear a_6 HE7 HH1 a_8 HE9 a_11 HE12 a_13 HE14 a_15 HE16 a_17 HE18 a_19 HE20 a_21 HE22 a_23 HE24 a_25 HE26 a_27 HE28
      refine nrm ?_
      refine cnd_d HE30 rfl (fun hc23 => ?_) (fun hc23 => ?_)
      · refine wp_skip ?_
        refine nrm ?_
        refine wp_seq ?_
        refine wp_block ?_
        refine wp_seq ?_
        refine wp_seq ?_
        refine dr_start (Held Nob w []) 9 #[false, false, false, false, false, false, false, false, false] hmix rfl rfl HH10 (fun _ h => h.sel [] (by decide) rfl) fun w' HH31 => ?_
        have HS32 := HH31
        refine dr_take (i := 0) (ls' := #[true, false, false, false, false, false, false, false, false]) HE30 HS32 rfl (by kernel_rfl) (by kernel_rfl) (by kernel_rfl) (fun _ _ _ h => h) rfl (wt0 rfl) (x_move rfl) rfl rfl fun a_33 HE34 => ?_
        refine dr_take (i := 1) (ls' := #[true, true, false, false, false, false, false, false, false]) HE34 HS32 rfl (by kernel_rfl) (by kernel_rfl) (by kernel_rfl) (fun _ _ _ h => h) rfl (wt0 rfl) (x_move rfl) rfl rfl fun a_35 HE36 => ?_
        have ke24 : k < a0.length := by omega
        obtain ⟨be24, fe24, ese24, Ae24, Re24, De24⟩ := el_old h0 ke24
        obtain ⟨e24, xe24⟩ : ∃ x_, x_ = a0[k] := ⟨_, rfl⟩
        rw [← xe24] at Re24
        have Qe24 := Re24
        obtain ⟨rfl, ie24⟩ := Re24
        have je24 := ie24; unfold I64 at je24
        refine dr_take (i := 2) (ls' := #[true, true, true, false, false, false, false, false, false]) HE36 HS32 rfl (by kernel_rfl) (by kernel_rfl) (by kernel_rfl) (fun _ _ _ h => h) rfl (wt0 rfl) (x_indexAddr ts_51 rfl rfl Ae24 rfl ke24) rfl rfl fun a_37 HE38 => ?_
        refine dr_take (i := 3) (ls' := #[true, true, true, true, false, false, false, false, false]) HE38 HS32 rfl (by kernel_rfl) (by kernel_rfl) (by kernel_rfl) (fun _ _ _ h => h) rfl (wt0 rfl) (x_load1 tv_2 rfl (c_old (De24 0 _ rfl))) rfl rfl fun a_39 HE40 => ?_
        refine dr_take (i := 4) (ls' := #[true, true, true, true, true, false, false, false, false]) HE40 HS32 rfl (by kernel_rfl) (by kernel_rfl) (by kernel_rfl) (fun _ _ _ h => h) rfl (wt0 rfl) (x_move rfl) rfl rfl fun a_41 HE42 => ?_
        refine dr_take (i := 5) (ls' := #[true, true, true, true, true, true, false, false, false]) HE42 HS32 rfl (by kernel_rfl) (by kernel_rfl) (by kernel_rfl) (fun _ _ _ h => h) rfl (wt0 rfl) (x_move rfl) rfl rfl fun a_43 HE44 => ?_
        have ke25 : k < a1.length := by omega
        obtain ⟨be25, fe25, ese25, Ae25, Re25, De25⟩ := el_old h1 ke25
        obtain ⟨e25, xe25⟩ : ∃ x_, x_ = a1[k] := ⟨_, rfl⟩
        rw [← xe25] at Re25
        have Qe25 := Re25
        obtain ⟨rfl, ie25⟩ := Re25
        have je25 := ie25; unfold I64 at je25
        refine dr_take (i := 6) (ls' := #[true, true, true, true, true, true, true, false, false]) HE44 HS32 rfl (by kernel_rfl) (by kernel_rfl) (by kernel_rfl) (fun _ _ _ h => h) rfl (wt0 rfl) (x_indexAddr ts_51 rfl rfl Ae25 rfl ke25) rfl rfl fun a_45 HE46 => ?_
        refine dr_take (i := 7) (ls' := #[true, true, true, true, true, true, true, true, false]) HE46 HS32 rfl (by kernel_rfl) (by kernel_rfl) (by kernel_rfl) (fun _ _ _ h => h) rfl (wt0 rfl) (x_load1 tv_2 rfl (c_old (De25 0 _ rfl))) rfl rfl fun a_47 HE48 => ?_
        refine dr_take (i := 8) (ls' := #[true, true, true, true, true, true, true, true, true]) HE48 HS32 rfl (by kernel_rfl) (by kernel_rfl) (by kernel_rfl) (fun _ _ _ h => h) rfl (wt0 rfl) (x_lss rfl rfl) rfl rfl fun a_49 HE50 => ?_
        refine dr_done (by kernel_rfl) ?_
        clear HH10 a_29 HE30 a_33 HE34 a_35 HE36 a_37 HE38 a_39 HE40 a_41 HE42 a_43 HE44 a_45 HE46 a_47 HE48
        refine nrm ?_
        refine cnd_d HE50 rfl (fun hc26 => ?_) (fun hc26 => ?_)
        · refine wp_seq ?_
          refine rg ?_
          refine pl_x HE50 HH31 (wt0 rfl) (x_assign rfl) rfl rfl fun a_51 HE52 => ?_
          refine wpList_nil ?_
          clear a_49 HE50
          refine nrm ?_
          refine wp_ret ?_
          refine (thn_ret (blk_ret (thn_ret (thn_ret (blk_ret (thn_ret ?_))))))
          refine ret1 HE52 rfl (rv_tmp rfl) ?_
          have hF : (cmpL a0 a1) = -1 := by
            rw [p21_2]; first | (rw [cmpL_end a0 a1 k (by omega) (by omega) (by omega)]; grind) | (rw [cmpL_step (by omega) (by omega)]; grind [cmpI])
          exact ⟨by first | (rw [hF] <;> rfl) | rfl | (rw [hF]; simp only [Ending.returned.injEq, Value.slice.injEq, true_and, and_true]; first | omega | (simp; done)) | (rw [hF]; simp; omega), HH31.below⟩
        · refine wp_skip ?_
          refine nrm ?_
          refine wp_seq ?_
          refine dr_start (Held Nob w []) 9 #[false, false, false, false, false, false, false, false, false] hmix rfl rfl HH31 (fun _ h => h.sel [] (by decide) rfl) fun w' HH53 => ?_
          have HS54 := HH53
          refine dr_take (i := 0) (ls' := #[true, false, false, false, false, false, false, false, false]) HE50 HS54 rfl (by kernel_rfl) (by kernel_rfl) (by kernel_rfl) (fun _ _ _ h => h) rfl (wt0 rfl) (x_move rfl) rfl rfl fun a_55 HE56 => ?_
          refine dr_take (i := 1) (ls' := #[true, true, false, false, false, false, false, false, false]) HE56 HS54 rfl (by kernel_rfl) (by kernel_rfl) (by kernel_rfl) (fun _ _ _ h => h) rfl (wt0 rfl) (x_move rfl) rfl rfl fun a_57 HE58 => ?_
          refine dr_take (i := 2) (ls' := #[true, true, true, false, false, false, false, false, false]) HE58 HS54 rfl (by kernel_rfl) (by kernel_rfl) (by kernel_rfl) (fun _ _ _ h => h) rfl (wt0 rfl) (x_indexAddr ts_51 rfl rfl Ae24 rfl ke24) rfl rfl fun a_59 HE60 => ?_
          refine dr_take (i := 3) (ls' := #[true, true, true, true, false, false, false, false, false]) HE60 HS54 rfl (by kernel_rfl) (by kernel_rfl) (by kernel_rfl) (fun _ _ _ h => h) rfl (wt0 rfl) (x_load1 tv_2 rfl (c_old (De24 0 _ rfl))) rfl rfl fun a_61 HE62 => ?_
          refine dr_take (i := 4) (ls' := #[true, true, true, true, true, false, false, false, false]) HE62 HS54 rfl (by kernel_rfl) (by kernel_rfl) (by kernel_rfl) (fun _ _ _ h => h) rfl (wt0 rfl) (x_move rfl) rfl rfl fun a_63 HE64 => ?_
          refine dr_take (i := 5) (ls' := #[true, true, true, true, true, true, false, false, false]) HE64 HS54 rfl (by kernel_rfl) (by kernel_rfl) (by kernel_rfl) (fun _ _ _ h => h) rfl (wt0 rfl) (x_move rfl) rfl rfl fun a_65 HE66 => ?_
          refine dr_take (i := 6) (ls' := #[true, true, true, true, true, true, true, false, false]) HE66 HS54 rfl (by kernel_rfl) (by kernel_rfl) (by kernel_rfl) (fun _ _ _ h => h) rfl (wt0 rfl) (x_indexAddr ts_51 rfl rfl Ae25 rfl ke25) rfl rfl fun a_67 HE68 => ?_
          refine dr_take (i := 7) (ls' := #[true, true, true, true, true, true, true, true, false]) HE68 HS54 rfl (by kernel_rfl) (by kernel_rfl) (by kernel_rfl) (fun _ _ _ h => h) rfl (wt0 rfl) (x_load1 tv_2 rfl (c_old (De25 0 _ rfl))) rfl rfl fun a_69 HE70 => ?_
          refine dr_take (i := 8) (ls' := #[true, true, true, true, true, true, true, true, true]) HE70 HS54 rfl (by kernel_rfl) (by kernel_rfl) (by kernel_rfl) (fun _ _ _ h => h) rfl (wt0 rfl) (x_gtr rfl rfl) rfl rfl fun a_71 HE72 => ?_
          refine dr_done (by kernel_rfl) ?_
          clear HH31 HS32 a_49 HE50 a_55 HE56 a_57 HE58 a_59 HE60 a_61 HE62 a_63 HE64 a_65 HE66 a_67 HE68 a_69 HE70
          refine nrm ?_
          refine cnd_d HE72 rfl (fun hc27 => ?_) (fun hc27 => ?_)
          · refine wp_seq ?_
            refine rg ?_
            refine pl_x HE72 HH53 (wt0 rfl) (x_assign rfl) rfl rfl fun a_73 HE74 => ?_
            refine wpList_nil ?_
            clear a_71 HE72
            refine nrm ?_
            refine wp_ret ?_
            refine (blk_ret (thn_ret (thn_ret (blk_ret (thn_ret ?_)))))
            refine ret1 HE74 rfl (rv_tmp rfl) ?_
            have hF : (cmpL a0 a1) = 1 := by
              rw [p21_2]; first | (rw [cmpL_end a0 a1 k (by omega) (by omega) (by omega)]; grind) | (rw [cmpL_step (by omega) (by omega)]; grind [cmpI])
            exact ⟨by first | (rw [hF] <;> rfl) | rfl | (rw [hF]; simp only [Ending.returned.injEq, Value.slice.injEq, true_and, and_true]; first | omega | (simp; done)) | (rw [hF]; simp; omega), HH53.below⟩
          · refine wp_skip ?_
            refine blk_n ?_
            refine nrm ?_
            refine rg ?_
            refine pl_x HE72 HH53 (wt0 rfl) (x_move rfl) rfl rfl fun a_75 HE76 => ?_
            refine pl_x HE76 HH53 (wt0 rfl) (x_add rfl rfl (by exact ⟨by omega, by omega⟩)) rfl rfl fun a_77 HE78 => ?_
            refine pl_x HE78 HH53 (wt0 rfl) (x_assign rfl) rfl rfl fun a_79 HE80 => ?_
            refine wpList_nil ?_
            clear a_71 HE72 a_75 HE76 a_77 HE78
            exact nrm ⟨a0.length - (k + 1), (by omega), k + 1, rfl, HE80.sub ⟨(lkI rfl (by first | rfl | omega | (simp [p21_0, p21_1, p21_2, hc22, hc23, xe24, xe25, hc26, hc27]; done))), rfl, rfl, trivial⟩, (HH53.sel [] (by decide) rfl), (by first | omega | assumption | (simp; done) | simp_all), (by first | omega | assumption | (simp; done) | simp_all), (by rw [p21_2, cmpL_step (by omega) (by omega)]; grind [cmpI])⟩
      · refine wp_exit ?_
        refine (thn_exit (thn_exit (blk_hit ?_)))
        refine nrm ?_
        refine wp_seq ?_
        refine wp_seq ?_
        refine rg ?_
        refine pl_x HE30 HH10 (wt0 rfl) (x_move rfl) rfl rfl fun a_81 HE82 => ?_
        refine pl_x HE82 HH10 (wt0 rfl) (x_len Tryd.underlying51 rfl) rfl rfl fun a_83 HE84 => ?_
        refine pl_x HE84 HH10 (wt0 rfl) (x_move rfl) rfl rfl fun a_85 HE86 => ?_
        refine pl_x HE86 HH10 (wt0 rfl) (x_len Tryd.underlying51 rfl) rfl rfl fun a_87 HE88 => ?_
        refine pl_x HE88 HH10 (wt0 rfl) (x_lss rfl rfl) rfl rfl fun a_89 HE90 => ?_
        refine wpList_nil ?_
        clear a_29 HE30 a_81 HE82 a_83 HE84 a_85 HE86 a_87 HE88
        refine nrm ?_
        refine cnd_d HE90 rfl (fun hc28 => ?_) (fun hc28 => ?_)
        · refine wp_seq ?_
          refine rg ?_
          refine pl_x HE90 HH10 (wt0 rfl) (x_assign rfl) rfl rfl fun a_91 HE92 => ?_
          refine wpList_nil ?_
          clear a_89 HE90
          refine nrm ?_
          refine wp_ret ?_
          refine (thn_ret ?_)
          refine ret1 HE92 rfl (rv_tmp rfl) ?_
          have hF : (cmpL a0 a1) = -1 := by
            rw [p21_2]; first | (rw [cmpL_end a0 a1 k (by omega) (by omega) (by omega)]; grind) | (rw [cmpL_step (by omega) (by omega)]; grind [cmpI])
          exact ⟨by first | (rw [hF] <;> rfl) | rfl | (rw [hF]; simp only [Ending.returned.injEq, Value.slice.injEq, true_and, and_true]; first | omega | (simp; done)) | (rw [hF]; simp; omega), HH10.below⟩
        · refine wp_skip ?_
          refine nrm ?_
          refine wp_seq ?_
          refine wp_seq ?_
          refine rg ?_
          refine pl_x HE90 HH10 (wt0 rfl) (x_move rfl) rfl rfl fun a_93 HE94 => ?_
          refine pl_x HE94 HH10 (wt0 rfl) (x_len Tryd.underlying51 rfl) rfl rfl fun a_95 HE96 => ?_
          refine pl_x HE96 HH10 (wt0 rfl) (x_move rfl) rfl rfl fun a_97 HE98 => ?_
          refine pl_x HE98 HH10 (wt0 rfl) (x_len Tryd.underlying51 rfl) rfl rfl fun a_99 HE100 => ?_
          refine pl_x HE100 HH10 (wt0 rfl) (x_gtr rfl rfl) rfl rfl fun a_101 HE102 => ?_
          refine wpList_nil ?_
          clear a_89 HE90 a_93 HE94 a_95 HE96 a_97 HE98 a_99 HE100
          refine nrm ?_
          refine cnd_d HE102 rfl (fun hc29 => ?_) (fun hc29 => ?_)
          · refine wp_seq ?_
            refine rg ?_
            refine pl_x HE102 HH10 (wt0 rfl) (x_assign rfl) rfl rfl fun a_103 HE104 => ?_
            refine wpList_nil ?_
            clear a_101 HE102
            refine nrm ?_
            refine wp_ret ?_
            refine (thn_ret ?_)
            refine ret1 HE104 rfl (rv_tmp rfl) ?_
            have hF : (cmpL a0 a1) = 1 := by
              rw [p21_2]; first | (rw [cmpL_end a0 a1 k (by omega) (by omega) (by omega)]; grind) | (rw [cmpL_step (by omega) (by omega)]; grind [cmpI])
            exact ⟨by first | (rw [hF] <;> rfl) | rfl | (rw [hF]; simp only [Ending.returned.injEq, Value.slice.injEq, true_and, and_true]; first | omega | (simp; done)) | (rw [hF]; simp; omega), HH10.below⟩
          · refine wp_skip ?_
            refine nrm ?_
            refine wp_seq ?_
            refine rg ?_
            refine pl_x HE102 HH10 (wt0 rfl) (x_assign rfl) rfl rfl fun a_105 HE106 => ?_
            refine wpList_nil ?_
            clear a_101 HE102
            refine nrm ?_
            refine wp_ret ?_
            refine ret1 HE106 rfl (rv_tmp rfl) ?_
            have hF : (cmpL a0 a1) = 0 := by
              rw [p21_2]; first | (rw [cmpL_end a0 a1 k (by omega) (by omega) (by omega)]; grind) | (rw [cmpL_step (by omega) (by omega)]; grind [cmpI])
            exact ⟨by first | (rw [hF] <;> rfl) | rfl | (rw [hF]; simp only [Ending.returned.injEq, Value.slice.injEq, true_and, and_true]; first | omega | (simp; done)) | (rw [hF]; simp; omega), HH10.below⟩
    · refine pl_no HE20 (wtF HE20 rfl rfl rfl (decide_eq_false hc22)) rfl rfl fun a_107 HE108 => ?_
      refine pl_no HE108 (wtF HE108 rfl rfl rfl (decide_eq_false hc22)) rfl rfl fun a_109 HE110 => ?_
      refine pl_no HE110 (wtF HE110 rfl rfl rfl (decide_eq_false hc22)) rfl rfl fun a_111 HE112 => ?_
      refine pl_no HE112 (wtF HE112 rfl rfl rfl (decide_eq_false hc22)) rfl rfl fun a_113 HE114 => ?_
      refine pl_x HE114 HH10 (wt0 rfl) (x_pickF rfl (decide_eq_false hc22) rfl) rfl rfl fun a_115 HE116 => ?_
      refine wpList_nil ?_
      clear a_6 HE7 HH1 a_8 HE9 a_11 HE12 a_13 HE14 a_15 HE16 a_17 HE18 a_19 HE20 a_107 HE108 a_109 HE110 a_111 HE112 a_113 HE114
      refine nrm ?_
      refine cndF HE116 rfl rfl ?_
      refine wp_exit ?_
      refine (thn_exit (thn_exit (blk_hit ?_)))
      refine nrm ?_
      refine wp_seq ?_
      refine wp_seq ?_
      refine rg ?_
      refine pl_x HE116 HH10 (wt0 rfl) (x_move rfl) rfl rfl fun a_117 HE118 => ?_
      refine pl_x HE118 HH10 (wt0 rfl) (x_len Tryd.underlying51 rfl) rfl rfl fun a_119 HE120 => ?_
      refine pl_x HE120 HH10 (wt0 rfl) (x_move rfl) rfl rfl fun a_121 HE122 => ?_
      refine pl_x HE122 HH10 (wt0 rfl) (x_len Tryd.underlying51 rfl) rfl rfl fun a_123 HE124 => ?_
      refine pl_x HE124 HH10 (wt0 rfl) (x_lss rfl rfl) rfl rfl fun a_125 HE126 => ?_
      refine wpList_nil ?_
      clear a_115 HE116 a_117 HE118 a_119 HE120 a_121 HE122 a_123 HE124
      refine nrm ?_
      refine cnd_d HE126 rfl (fun hc30 => ?_) (fun hc30 => ?_)
      · refine wp_seq ?_
        refine rg ?_
        refine pl_x HE126 HH10 (wt0 rfl) (x_assign rfl) rfl rfl fun a_127 HE128 => ?_
        refine wpList_nil ?_
        clear a_125 HE126
        refine nrm ?_
        refine wp_ret ?_
        refine (thn_ret ?_)
        refine ret1 HE128 rfl (rv_tmp rfl) ?_
        have hF : (cmpL a0 a1) = -1 := by
          rw [p21_2]; first | (rw [cmpL_end a0 a1 k (by omega) (by omega) (by omega)]; grind) | (rw [cmpL_step (by omega) (by omega)]; grind [cmpI])
        exact ⟨by first | (rw [hF] <;> rfl) | rfl | (rw [hF]; simp only [Ending.returned.injEq, Value.slice.injEq, true_and, and_true]; first | omega | (simp; done)) | (rw [hF]; simp; omega), HH10.below⟩
      · refine wp_skip ?_
        refine nrm ?_
        refine wp_seq ?_
        refine wp_seq ?_
        refine rg ?_
        refine pl_x HE126 HH10 (wt0 rfl) (x_move rfl) rfl rfl fun a_129 HE130 => ?_
        refine pl_x HE130 HH10 (wt0 rfl) (x_len Tryd.underlying51 rfl) rfl rfl fun a_131 HE132 => ?_
        refine pl_x HE132 HH10 (wt0 rfl) (x_move rfl) rfl rfl fun a_133 HE134 => ?_
        refine pl_x HE134 HH10 (wt0 rfl) (x_len Tryd.underlying51 rfl) rfl rfl fun a_135 HE136 => ?_
        refine pl_x HE136 HH10 (wt0 rfl) (x_gtr rfl rfl) rfl rfl fun a_137 HE138 => ?_
        refine wpList_nil ?_
        clear a_125 HE126 a_129 HE130 a_131 HE132 a_133 HE134 a_135 HE136
        refine nrm ?_
        refine cnd_d HE138 rfl (fun hc31 => ?_) (fun hc31 => ?_)
        · refine wp_seq ?_
          refine rg ?_
          refine pl_x HE138 HH10 (wt0 rfl) (x_assign rfl) rfl rfl fun a_139 HE140 => ?_
          refine wpList_nil ?_
          clear a_137 HE138
          refine nrm ?_
          refine wp_ret ?_
          refine (thn_ret ?_)
          refine ret1 HE140 rfl (rv_tmp rfl) ?_
          have hF : (cmpL a0 a1) = 1 := by
            rw [p21_2]; first | (rw [cmpL_end a0 a1 k (by omega) (by omega) (by omega)]; grind) | (rw [cmpL_step (by omega) (by omega)]; grind [cmpI])
          exact ⟨by first | (rw [hF] <;> rfl) | rfl | (rw [hF]; simp only [Ending.returned.injEq, Value.slice.injEq, true_and, and_true]; first | omega | (simp; done)) | (rw [hF]; simp; omega), HH10.below⟩
        · refine wp_skip ?_
          refine nrm ?_
          refine wp_seq ?_
          refine rg ?_
          refine pl_x HE138 HH10 (wt0 rfl) (x_assign rfl) rfl rfl fun a_141 HE142 => ?_
          refine wpList_nil ?_
          clear a_137 HE138
          refine nrm ?_
          refine wp_ret ?_
          refine ret1 HE142 rfl (rv_tmp rfl) ?_
          have hF : (cmpL a0 a1) = 0 := by
            rw [p21_2]; first | (rw [cmpL_end a0 a1 k (by omega) (by omega) (by omega)]; grind) | (rw [cmpL_step (by omega) (by omega)]; grind [cmpI])
          exact ⟨by first | (rw [hF] <;> rfl) | rfl | (rw [hF]; simp only [Ending.returned.injEq, Value.slice.injEq, true_and, and_true]; first | omega | (simp; done)) | (rw [hF]; simp; omega), HH10.below⟩

end Go.Proofs.YtjnnkmflpbildaaDoor
