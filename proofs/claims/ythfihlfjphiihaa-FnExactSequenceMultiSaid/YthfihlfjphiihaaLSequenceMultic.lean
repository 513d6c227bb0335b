/- What the proof of FnExactSequenceMulti needs: contracts of the functions that it reaches, each once. -/
import Derived.Test.YthfihlfjphiihaaProg
import Derived.Test.YthfihlfjphiihaaQMem
import Derived.Test.YthfihlfjphiihaaQOpen
import Derived.Test.YthfihlfjphiihaaLSequenceMultia
import Derived.Test.YthfihlfjphiihaaLSequenceMultib
import Derived.WalkKit
import Derived.WalkSpells
import Derived.Below
import Derived.LoopTactic
import Derived.Outline
import Derived.Deep.QuietTactic
import Derived.BigQuiet
import Derived.Deep.LoopGhost
import Derived.Handy
import Derived.Lib.Hide
import Derived.Shelf.Abstract
import Derived.StillTailTactics
import Derived.OwnWalk
import Derived.Maps.AppendAt
import Derived.RegionTactic
import Derived.Deep.RegionHeld3
import Derived.IntWalk
import Derived.Deep.Upon
import Derived.Laws.OwnMore
import Derived.Maps.AppendAt
import Derived.Laws.Small
import Derived.Lib.FrozenHead
import Derived.Lib.RuneBytes
import Derived.Lib.LaidTab
import Derived.Laws.StructEq
import Derived.Maps.OwnSet
import Derived.DeepKeys4
import Derived.Lib.SliceRun
import Derived.Lib.AppendZeros
import Derived.Shelf.SortG.Plain
import Derived.Shelf.SortG.SortNone
import Derived.Shelf.SlicesG.CompactI
import Derived.Shelf.SlicesG.SearchI
import Derived.Sort.OwnSortedInts
import Derived.Lib.RowBridge
import Derived.Lib.ItoaLen
import Derived.Lib.Join
import Derived.Shelf.Strconv.Itoa4
import Derived.Shelf.Strings.OnBuilder
import Derived.Shelf.Strings.BuilderK
import Derived.Shelf.Strings.BuilderRune
import Derived.Shelf.LaysM
import Derived.Ground.NamesProg
import Derived.Shelf.SlSortCmp.WholeK
import Derived.Shelf.SlSortCmp.NoneTotal
namespace Go.Proofs.Ythfihlfjphiihaa
open Go.RowKit

theorem tb_104 : TB Try.prog 104 [.int .i64 0, .slice none 0 0, .slice none 0 0, .slice none 0 0, .int .i64 0] := by
  refine ⟨tv_104, _, #[(0, 1), (1, 1), (2, 1), (3, 1), (4, 1)], Try.underlying104, fun w => ?_, fun i hi => ?_⟩
  · obtain ⟨i2, z2, h2, _, s2, _⟩ := tv_2.info; simp only [List.length_cons, List.length_nil] at s2; obtain ⟨i37, z37, h37, _, s37, _⟩ := tv_37.info; simp only [List.length_cons, List.length_nil] at s37
    simp [sizeOf, typeInfo, h2, s2, h37, s37]
  · simp only [List.length_cons, List.length_nil] at hi
    match i, hi with
    | 0, _ => rfl
    | 1, _ => rfl
    | 2, _ => rfl
    | 3, _ => rfl
    | 4, _ => rfl

theorem fa_137_1 : ∀ b o w, (Instr.fieldAt 137 (.pointer (some ⟨b, o, none⟩)) 1).run Try.prog w = .ok (.pointer (some ⟨b, o + 1, none⟩)) w := by
  obtain ⟨i, z, h1, _, h3, _⟩ := tv_135.info
  exact fun b o w => fieldAt_of (f := 1) Try.underlying137 rfl h1 (by rw [h3]; decide) b o w

theorem en_23 : ∀ args w, (callFunc 23 args).run Try.prog w = .ok (.enter 23 args) w := enters_of Try.func23 (by kernel_rfl) rfl

theorem en_25 : ∀ args w, (callFunc 25 args).run Try.prog w = .ok (.enter 25 args) w := enters_of Try.func25 (by kernel_rfl) rfl

theorem en_26 : ∀ args w, (callFunc 26 args).run Try.prog w = .ok (.enter 26 args) w := enters_of Try.func26 (by kernel_rfl) rfl

theorem en_28 : ∀ args w, (callFunc 28 args).run Try.prog w = .ok (.enter 28 args) w := enters_of Try.func28 (by kernel_rfl) rfl

theorem en_31 : ∀ args w, (callFunc 31 args).run Try.prog w = .ok (.enter 31 args) w := enters_of Try.func31 (by kernel_rfl) rfl

theorem en_32 : ∀ args w, (callFunc 32 args).run Try.prog w = .ok (.enter 32 args) w := enters_of Try.func32 (by kernel_rfl) rfl

theorem en_35 : ∀ args w, (callFunc 35 args).run Try.prog w = .ok (.enter 35 args) w := enters_of Try.func35 (by kernel_rfl) rfl

theorem en_36 : ∀ args w, (callFunc 36 args).run Try.prog w = .ok (.enter 36 args) w := enters_of Try.func36 (by kernel_rfl) rfl

theorem en_37 : ∀ args w, (callFunc 37 args).run Try.prog w = .ok (.enter 37 args) w := enters_of Try.func37 (by kernel_rfl) rfl

theorem en_42 : ∀ args w, (callFunc 42 args).run Try.prog w = .ok (.enter 42 args) w := enters_of Try.func42 (by kernel_rfl) rfl

theorem en_60 : ∀ args w, (callFunc 60 args).run Try.prog w = .ok (.enter 60 args) w := enters_of Try.func60 (by kernel_rfl) rfl

theorem en_61 : ∀ args w, (callFunc 61 args).run Try.prog w = .ok (.enter 61 args) w := enters_of Try.func61 (by kernel_rfl) rfl

theorem en_62 : ∀ args w, (callFunc 62 args).run Try.prog w = .ok (.enter 62 args) w := enters_of Try.func62 (by kernel_rfl) rfl

theorem en_64 : ∀ args w, (callFunc 64 args).run Try.prog w = .ok (.enter 64 args) w := enters_of Try.func64 (by kernel_rfl) rfl

theorem en_65 : ∀ args w, (callFunc 65 args).run Try.prog w = .ok (.enter 65 args) w := enters_of Try.func65 (by kernel_rfl) rfl

theorem en_66 : ∀ args w, (callFunc 66 args).run Try.prog w = .ok (.enter 66 args) w := enters_of Try.func66 (by kernel_rfl) rfl

theorem en_68 : ∀ args w, (callFunc 68 args).run Try.prog w = .ok (.enter 68 args) w := enters_of Try.func68 (by kernel_rfl) rfl

theorem en_69 : ∀ args w, (callFunc 69 args).run Try.prog w = .ok (.enter 69 args) w := enters_of Try.func69 (by kernel_rfl) rfl

theorem en_70 : ∀ args w, (callFunc 70 args).run Try.prog w = .ok (.enter 70 args) w := enters_of Try.func70 (by kernel_rfl) rfl

theorem en_71 : ∀ args w, (callFunc 71 args).run Try.prog w = .ok (.enter 71 args) w := enters_of Try.func71 (by kernel_rfl) rfl

theorem en_72 : ∀ args w, (callFunc 72 args).run Try.prog w = .ok (.enter 72 args) w := enters_of Try.func72 (by kernel_rfl) rfl

theorem en_73 : ∀ args w, (callFunc 73 args).run Try.prog w = .ok (.enter 73 args) w := enters_of Try.func73 (by kernel_rfl) rfl

theorem en_74 : ∀ args w, (callFunc 74 args).run Try.prog w = .ok (.enter 74 args) w := enters_of Try.func74 (by kernel_rfl) rfl

theorem en_97 : ∀ args w, (callFunc 97 args).run Try.prog w = .ok (.enter 97 args) w := enters_of Try.func97 (by kernel_rfl) rfl

theorem en_98 : ∀ args w, (callFunc 98 args).run Try.prog w = .ok (.enter 98 args) w := enters_of Try.func98 (by kernel_rfl) rfl

theorem en_99 : ∀ args w, (callFunc 99 args).run Try.prog w = .ok (.enter 99 args) w := enters_of Try.func99 (by kernel_rfl) rfl

theorem en_101 : ∀ args w, (callFunc 101 args).run Try.prog w = .ok (.enter 101 args) w := enters_of Try.func101 (by kernel_rfl) rfl

theorem en_102 : ∀ args w, (callFunc 102 args).run Try.prog w = .ok (.enter 102 args) w := enters_of Try.func102 (by kernel_rfl) rfl

theorem en_103 : ∀ args w, (callFunc 103 args).run Try.prog w = .ok (.enter 103 args) w := enters_of Try.func103 (by kernel_rfl) rfl

theorem en_104 : ∀ args w, (callFunc 104 args).run Try.prog w = .ok (.enter 104 args) w := enters_of Try.func104 (by kernel_rfl) rfl

theorem en_106 : ∀ args w, (callFunc 106 args).run Try.prog w = .ok (.enter 106 args) w := enters_of Try.func106 (by kernel_rfl) rfl

theorem en_113 : ∀ args w, (callFunc 113 args).run Try.prog w = .ok (.enter 113 args) w := enters_of Try.func113 (by kernel_rfl) rfl

theorem en_114 : ∀ args w, (callFunc 114 args).run Try.prog w = .ok (.enter 114 args) w := enters_of Try.func114 (by kernel_rfl) rfl

theorem en_115 : ∀ args w, (callFunc 115 args).run Try.prog w = .ok (.enter 115 args) w := enters_of Try.func115 (by kernel_rfl) rfl

theorem en_116 : ∀ args w, (callFunc 116 args).run Try.prog w = .ok (.enter 116 args) w := enters_of Try.func116 (by kernel_rfl) rfl

theorem en_117 : ∀ args w, (callFunc 117 args).run Try.prog w = .ok (.enter 117 args) w := enters_of Try.func117 (by kernel_rfl) rfl

theorem en_118 : ∀ args w, (callFunc 118 args).run Try.prog w = .ok (.enter 118 args) w := enters_of Try.func118 (by kernel_rfl) rfl

theorem en_122 : ∀ args w, (callFunc 122 args).run Try.prog w = .ok (.enter 122 args) w := enters_of Try.func122 (by kernel_rfl) rfl

theorem hmix : Try.prog.follows .mixedOrders = true := by kernel_rfl

abbrev tKey : Type := Int × Int × Int × Int

def keyV (k : tKey) : Value := .agg #[.int .i64 k.1, .int .i64 k.2.1, .int .i64 k.2.2.1, .int .i64 k.2.2.2]

def okKey (k : tKey) : Prop := I64 k.1 ∧ I64 k.2.1 ∧ I64 k.2.2.1 ∧ I64 k.2.2.2

theorem key_law : Go.WideMaps.KeyLaw Try.prog 137 := deep_law_laid (by kernel_rfl) (m := 3) (by omega) (of_decide_eq_true (by kernel_rfl)) (by kernel_rfl) (by kernel_rfl)

theorem keyed_R : Go.Maps.Keyed Try.prog 137 := .of_law key_law

theorem lit_wf {x : Int} (h : I64 x) : (Lit.int .i64 x).wf = true := by
  have e1 : IntKind.min .i64 = -9223372036854775808 := by kernel_rfl
  have e2 : IntKind.max .i64 = 9223372036854775807 := by kernel_rfl
  unfold I64 at h
  simp only [Lit.wf, e1, e2, Bool.and_eq_true, decide_eq_true_eq]
  exact h

theorem keyOf_R {k : tKey} (h : okKey k) : ∃ l, keyOf Try.prog 137 (keyV k) = some l := by
  obtain ⟨h1, h2, h3, h4⟩ := h
  obtain ⟨m, hm⟩ : ∃ m, (Try.prog).types.size + 1 = m + 3 := ⟨(Try.prog).types.size - 2, by have : 2 ≤ (Try.prog).types.size := of_decide_eq_true (by kernel_rfl); omega⟩
  have c1 : (Try.prog).cellsOf 137 = 4 := by kernel_rfl
  have c2 : (Try.prog).cellsOf 135 = 3 := by kernel_rfl
  have c3 : (Try.prog).cellsOf 2 = 1 := by kernel_rfl
  have hk : (Try.prog).keyType 137 = true := by kernel_rfl
  have hf : (keyV k).formed Try.prog 137 = true := by simp [keyV, Value.formed, Try.underlying137, c1]
  have hs : ∃ ls, Program.keyLits Try.prog (m + 3) 137 (keyV k).cells.toList = some ls := by
    refine ⟨[.int .i64 k.1, .int .i64 k.2.1, .int .i64 k.2.2.1, .int .i64 k.2.2.2], ?_⟩
    simp [Program.keyLits, Try.underlying137, Try.underlying135, Try.underlying2, c1, c2, c3, keyV, Value.cells, List.range_succ, lit_wf h1, lit_wf h2, lit_wf h3, lit_wf h4]
  obtain ⟨ls, hls⟩ := hs
  refine ⟨.string (keyBytes ls), ?_⟩
  simp only [keyOf, Try.underlying137, hk, hf, Bool.and_self, if_true, hm, hls, Option.map_some]

theorem keyV_inj {k k' : tKey} (h : keyV k = keyV k') : k = k' := by
  obtain ⟨a, b, c, d⟩ := k
  obtain ⟨a', b', c', d'⟩ := k'
  simp only [keyV, Value.agg.injEq, Array.mk.injEq, List.cons.injEq, Value.int.injEq, true_and, and_true] at h
  obtain ⟨rfl, rfl, rfl, rfl⟩ := h
  rfl

/-- Block b is a map that has just the keys ks. -/
def MapK (w : World) (b : Nat) (ks : List tKey) : Prop :=
  ∃ (n : Nat) (D : DataW Unit), n ≤ ks.length ∧ w.ownsMap Try.prog 137 (plainElem Try.prog 2) b n D ∧ Maps.IsMap D ∧ ∀ k l, keyOf Try.prog 137 (keyV k) = some l → Maps.has D l = decide (k ∈ ks)

theorem MapK.lt {w : World} {b : Nat} {ks : List tKey} (h : MapK w b ks) : b < w.heap.size := by
  obtain ⟨n, D, _, h2, _⟩ := h
  exact h2.lt

theorem MapK.keep {w w' : World} {b : Nat} {ks : List tKey} (h : MapK w b ks) (hb : w'.heap[b]? = w.heap[b]?) : MapK w' b ks := by
  obtain ⟨n, D, h1, ⟨es, clock, h2, h3, h4, h5⟩, h6, h7⟩ := h
  exact ⟨n, D, h1, ⟨es, clock, hb.trans h2, h3, h4, h5⟩, h6, h7⟩

theorem MapK.new (w : World) : MapK (w.alloc (.map #[] 0)) w.heap.size [] :=
  ⟨0, .map [], Nat.le_refl _, World.ownsMap_made w _ _ _, Maps.isMap_empty, fun k l _ => by simp [Maps.has_eq]⟩

theorem MapK.put {w : World} {b : Nat} {ks : List tKey} (h : MapK w b ks) {k : tKey} (hk : okKey k) {v : Int} (hv : I64 v) (hn : ks.length < maxLen) :
    ∃ w', (Instr.mapUpdate 133 (.map (some b)) (keyV k) (.int .i64 v)).run Try.prog w = .ok () w' ∧ MapK w' b (ks ++ [k]) ∧ w.grownBy w' (some b) := by
  obtain ⟨n, D, h1, h2, h3, h4⟩ := h
  obtain ⟨l, hl⟩ := keyOf_R hk
  obtain ⟨w', r1, r2, r3⟩ := h2.update keyed_R Try.underlying133 (by omega) hl (plainElem_int Try.underlying2 (lit_wf hv))
  refine ⟨w', r1, ⟨n + 1, _, by simp only [List.length_append, List.length_cons, List.length_nil]; omega, r2, h3.put _ _, fun k' l' hl' => ?_⟩, r3⟩
  by_cases e : k' = k
  · subst e
    rw [hl] at hl'
    cases hl'
    rw [Maps.has_put_same h3 (keyed_R.key hl)]
    simp
  · have hne : l' ≠ l := fun q => e (keyV_inj (keyed_R.inj hl' (q ▸ hl)))
    rw [Maps.has_put_other hne, h4 k' l' hl']
    simp [e]

theorem MapK.look {w : World} {b : Nat} {ks : List tKey} (h : MapK w b ks) {k : tKey} (hk : okKey k) :
    ∃ v : Int, (Instr.lookup 133 (.map (some b)) (keyV k) true).run Try.prog w = .ok (.tuple #[.int .i64 v, .bool (decide (k ∈ ks))]) w := by
  obtain ⟨n, D, h1, h2, h3, h4⟩ := h
  obtain ⟨l, hl⟩ := keyOf_R hk
  obtain ⟨v, ps, r1, r2⟩ := h2.look_ok keyed_R Try.underlying133 (z := .int .i64 0) (by kernel_rfl) (plainElem_int Try.underlying2 (lit_wf ⟨by omega, by omega⟩)) hl
  obtain ⟨c, rfl, _⟩ := plainElem_int_inv Try.underlying2 r2
  exact ⟨c, by rw [r1, h4 k l hl]⟩

def rMap (b : Nat) (ks : List tKey) : Res := ⟨fun g => g = b, fun w => MapK w b ks, fun _ _ h hm => hm.keep (h b rfl)⟩

theorem Held.getMap {M : Nat → Prop} {w0 : World} {rs : List Res} {w : World} (h : Held M w0 rs w) {i b : Nat} {ks : List tKey} (hi : rs[i]? = some (rMap b ks)) : MapK w b ks := h.get hi

theorem Held.nfMap {M : Nat → Prop} {w0 : World} {xs rs : List Res} {w : World} (h : Held M w0 (xs ++ rs) w) {i b : Nat} {ks : List tKey} (hi : rs[i]? = some (rMap b ks)) : ¬ Foot xs b := by
  rintro ⟨r, hr, hb'⟩
  exact (List.pairwise_append.1 h.sep).2.2 r hr _ (List.mem_of_getElem? hi) b hb' rfl

theorem Held.mapOM {M : Nat → Prop} {w0 : World} {rs : List Res} {w : World} (h : Held M w0 rs w) {b : Nat} {ks : List tKey} (hm : MapK w0 b ks) (hM : ¬ M b) : MapK w b ks := hm.keep (h.chg.block b hm.lt hM)

theorem Held.nfOMM {M : Nat → Prop} {w0 : World} {xs rs : List Res} {w : World} (h : Held M w0 (xs ++ rs) w) {b : Nat} {ks : List tKey} (hm : MapK w0 b ks) (hM : ¬ M b) : ¬ Foot xs b := by
  rintro ⟨r, hr, hb'⟩
  rcases (h.rng r (by simp [hr]) b hb').1 with q | q
  · exact hM q
  · have := hm.lt
    omega

theorem st_makeMap {P : Program} {ops : Array Oper} {Q : Exit → Act → World → Prop} {a : Act} {w : World} {K : Act → World → Prop} {n d : Nat} {L : List (Nat × Value)} {M : Nat → Prop} {w0 : World} {rs : List Res} {t ty : TypeId} {pos : String} {af : Array Edge} {gd : Option (Nat × Bool)} (hE : Env n L a) (hH : Held M w0 rs w) (hw : Region.wanted ⟨some d, .makeMap t none, ty, pos, af, gd⟩ (yielded ops a.tmps) = true) (hn : Nat.blt d n = true)
    (k : ∀ q a' w', Env n ((d, .map (some q)) :: L) a' → Held M w0 (rMap q [] :: rs) w' → K a' w') : Stp P ops Q ⟨some d, .makeMap t none, ty, pos, af, gd⟩ a w K := by
  refine st_val hE hw ?_ rfl hn fun a' hE' => k w.heap.size a' _ hE' (hH.new ((Below.refl _ _).alloc (Nat.le_refl _) _) (rMap w.heap.size []) (MapK.new w) fun b (hb : b = _) => by subst hb; simp)
  simp [execOp, run_makeMap]

theorem st_mapUpdate {ops : Array Oper} {Q : Exit → Act → World → Prop} {a : Act} {w : World} {K : Act → World → Prop} {n : Nat} {L : List (Nat × Value)} {M : Nat → Prop} {w0 : World} {rs : List Res} {m x y : Operand} {b : Nat} {ks : List tKey} {k : tKey} {v : Int} {ty : TypeId} {pos : String} {af : Array Edge} {gd : Option (Nat × Bool)} (i : Nat) (hE : Env n L a) (hH : Held M w0 rs w) (hi : rs[i]? = some (rMap b ks)) (hm : ev L m = some (.map (some b))) (hx : ev L x = some (keyV k)) (hy : ev L y = some (.int .i64 v)) (hk : okKey k) (hv : I64 v) (hl : ks.length < maxLen) (hw : Region.wanted ⟨none, .mapUpdate 133 m x y, ty, pos, af, gd⟩ (yielded ops a.tmps) = true)
    (kk : ∀ w', Held M w0 (rs.set i (rMap b (ks ++ [k]))) w' → K a w') : Stp Try.prog ops Q ⟨none, .mapUpdate 133 m x y, ty, pos, af, gd⟩ a w K := by
  obtain ⟨w', r1, r2, r3⟩ := (hH.getMap hi).put hk hv hl
  refine st_skip hw ?_ rfl (kk w' (hH.mut hi ((grown_chg r3).mono fun g hg => (Option.some.inj hg).symm) (rMap b (ks ++ [k])) r2 fun b hb => .inl hb))
  simp [execOp, hE.ev hm, hE.ev hx, hE.ev hy, r1]

theorem st_lookup {ops : Array Oper} {Q : Exit → Act → World → Prop} {a : Act} {w : World} {K : Act → World → Prop} {n d : Nat} {L : List (Nat × Value)} {m x : Operand} {b : Nat} {ks : List tKey} {k : tKey} {ty : TypeId} {pos : String} {af : Array Edge} {gd : Option (Nat × Bool)} (hE : Env n L a) (hM : MapK w b ks) (hm : ev L m = some (.map (some b))) (hx : ev L x = some (keyV k)) (hk : okKey k) (hw : Region.wanted ⟨some d, .lookup 133 m x true, ty, pos, af, gd⟩ (yielded ops a.tmps) = true) (hn : Nat.blt d n = true)
    (kk : ∀ v a', Env n ((d, .tuple #[.int .i64 v, .bool (decide (k ∈ ks))]) :: L) a' → K a' w) : Stp Try.prog ops Q ⟨some d, .lookup 133 m x true, ty, pos, af, gd⟩ a w K := by
  obtain ⟨v, r1⟩ := hM.look hk
  refine st_val hE hw ?_ rfl hn fun a' hE' => kk v a' hE'
  simp [execOp, hE.ev hm, hE.ev hx, r1]

/-- The slice of a whole array. -/
theorem x_sliceArr {P : Program} {S : World → Prop} {L : List (Nat × Value)} {d : Option Tmp} {x : Operand} {t e : TypeId} {ag : Bool} {zs : List Value} {b o n : Nat} {ty : TypeId} {pos : String} {af : Array Edge} {g : Option (Nat × Bool)} (hu : P.underlying t = some (.array n e)) (he : TV P e ag zs) (hx : ev L x = some (.pointer (some ⟨b, o, none⟩))) : XS P S L ⟨d, .slice t x none none none, ty, pos, af, g⟩ (.slice (some ⟨b, o, none⟩) n n) := fun _ _ w hE _ => by
  obtain ⟨i, z, h1, _, h3, _⟩ := he.info
  simp [execOp, hE.ev hx, Instr.sliceAt, Instr.sureAddr, run_underlying hu, Instr.sliceBounds, sizeOf, typeInfo, h1, Addr.add]

theorem run_storeBlk {P : Program} {g : Nat} {t : TypeId} : ∀ (ys : List Int) (cur : Array Value) (w : World) (o j : Nat), Blk w g t cur → o + j + ys.length ≤ cur.size →
    ∃ w', (storeCells ⟨g, o, none⟩ (ys.map (Value.int .i64)) j).run P w = .ok () w' ∧ Blk w' g t (setAll cur (o + j) (ys.map (Value.int .i64))) ∧ Chg (fun b => b = g) w w'
  | [], cur, w, o, j, h, _ => ⟨w, by simp [storeCells], h, Chg.refl _ _⟩
  | y :: ys, cur, w, o, j, h, hl => by
    rw [List.length_cons] at hl
    have hlt : o + j < cur.size := by omega
    have hc : w.cell? ⟨g, o + j, none⟩ = some cur[o + j] := by rw [h.cell]; exact Array.getElem?_eq_getElem hlt
    have hf : w.frozen? ⟨g, o + j, none⟩ = false := h.frozen _
    obtain ⟨w', r1, r2, r3⟩ := run_storeBlk (P := P) ys _ (w.setCell ⟨g, o + j, none⟩ (.int .i64 y)) o (j + 1) (h.set (o + j) (.int .i64 y)) (by simp; omega)
    refine ⟨w', ?_, ?_, ((Chg.refl (fun b => b = g) w).set (by exact rfl) _).trans r3⟩
    · have hs : (Go.store ⟨g, o + j, none⟩ (.int .i64 y)).run P w = .ok () (w.setCell ⟨g, o + j, none⟩ (.int .i64 y)) := by simp [Go.store, Sem.run, hc, hf]
      simp only [List.map_cons, storeCells, add_none, Sem.run_bind, hs, Result.andThen_ok, r1]
    · rw [List.map_cons, setAll]; exact r2

/-- copy, of at most three numbers, into an array behind a struct's first cell. -/
theorem st_copyA {P : Program} {ops : Array Oper} {Q : Exit → Act → World → Prop} {a : Act} {w : World} {K : Act → World → Prop} {n d : Nat} {L : List (Nat × Value)} {M : Nat → Prop} {w0 : World} {rs : List Res} {t e bt : TypeId} {by_ : Nat} {x1 x2 : Operand} {g c2 m : Nat} {B : Option Addr} {c0 : Value} {ys : List Int} {ty : TypeId} {pos : String} {af : Array Edge} {gd : Option (Nat × Bool)} (i : Nat) (hE : Env n L a) (hH : Held M w0 rs w) (he : TSl P t e 1 by_) (hi : rs[i]? = some (rBlk g bt [c0, .int .i64 0, .int .i64 0, .int .i64 0])) (hx1 : ev L x1 = some (.slice (some ⟨g, 1, none⟩) 3 3)) (hx2 : ev L x2 = some (.slice B m c2)) (hm : ys.length = m) (hS : Sl eInt w (Old w) B c2 ys) (hl : ys.length ≤ 3) (hw : Region.wanted ⟨some d, .call { callee := .builtin .copy, args := #[x1, x2], argTypes := #[t, t] }, ty, pos, af, gd⟩ (yielded ops a.tmps) = true) (hn : Nat.blt d n = true)
    (k : ∀ a' w', Env n ((d, .int .i64 ys.length) :: L) a' → Held M w0 (rs.set i (rBlk g bt [c0, .int .i64 (ys[0]?.getD 0), .int .i64 (ys[1]?.getD 0), .int .i64 (ys[2]?.getD 0)])) w' → (∀ j : Nat, I64 (ys[j]?.getD 0)) → K a' w') : Stp P ops Q ⟨some d, .call { callee := .builtin .copy, args := #[x1, x2], argTypes := #[t, t] }, ty, pos, af, gd⟩ a w K := by
  subst hm
  obtain ⟨ii, z, e1, _, e3, _⟩ := he.info
  have hI : ∀ j : Nat, I64 (ys[j]?.getD 0) := fun j => by
    cases hy : ys[j]? with
    | none => exact ⟨by show (-9223372036854775808 : Int) ≤ 0; omega, by show (0 : Int) ≤ 9223372036854775807; omega⟩
    | some y =>
      obtain ⟨hj, rfl⟩ := List.getElem?_eq_some_iff.1 hy
      obtain ⟨_, _, _, _, _, hR, _⟩ := hS.at hj
      exact hR.2
  obtain ⟨w', r1, r2, r3⟩ := run_storeBlk (P := P) ys [c0, .int .i64 0, .int .i64 0, .int .i64 0].toArray w 1 0 (hH.get hi) (by simp; omega)
  have hcur : setAll [c0, .int .i64 0, .int .i64 0, .int .i64 0].toArray (1 + 0) (ys.map (Value.int .i64)) = [c0, .int .i64 (ys[0]?.getD 0), .int .i64 (ys[1]?.getD 0), .int .i64 (ys[2]?.getD 0)].toArray := by
    rcases ys with _ | ⟨y0, _ | ⟨y1, _ | ⟨y2, _ | ⟨y3, ys⟩⟩⟩⟩
    · rfl
    · rfl
    · rfl
    · rfl
    · simp only [List.length_cons] at hl; omega
  rw [hcur] at r2
  have hfirst : (Builtin.firstCells 1 ys.length (.slice B ys.length c2)).run P w = .ok (ys.map (Value.int .i64)).toArray w := by
    cases B with
    | none =>
      have : ys = [] := Classical.byContradiction fun hn => by
        obtain ⟨b', off', hA, _⟩ := hS.2.2 hn
        cases hA
      subst this
      simp [Builtin.firstCells]
    | some ad =>
      by_cases hy : ys = []
      · subst hy; simp [Builtin.firstCells, loadCells, loadCellsFrom]
      · obtain ⟨b', off', hA, hb', hc⟩ := hS.2.2 hy
        simp only [Option.some.injEq] at hA
        subst hA
        have h := run_loadCellsFrom (P := P) (w := w) (b := b') (o := off') (ys.map (Value.int .i64)) 0 #[] (fun j v hv => by
          rw [List.getElem?_map] at hv
          cases hyj : ys[j]? with
          | none => rw [hyj] at hv; cases hv
          | some y =>
            rw [hyj] at hv
            simp at hv; subst hv
            obtain ⟨es, hR, hcc⟩ := hc j y hyj
            obtain ⟨rfl, _⟩ := hR
            have := hcc 0 _ rfl
            rw [show off' + j * eInt.size + 0 = off' + (0 + j) from by show off' + j * 1 + 0 = _; omega] at this
            exact this)
        simp only [Builtin.firstCells, loadCells]
        rw [Nat.mul_one, show ys.length = (ys.map (Value.int .i64)).length from by simp, h]
        simp
  have hmin : Nat.min ys.length 3 = ys.length := Nat.min_eq_left hl
  refine st_val hE hw ?_ rfl hn fun a' hE' => k a' w' hE' (hH.mut hi r3 (rBlk g bt [c0, .int .i64 (ys[0]?.getD 0), .int .i64 (ys[1]?.getD 0), .int .i64 (ys[2]?.getD 0)]) r2 fun b hb => .inl hb) hI
  simp only [execOp, resolve, invoke, builtin, Sem.run_bind, Sem.run_pure, Result.andThen_ok, List.map_toArray, List.map_cons, List.map_nil, hE.ev hx1, hE.ev hx2, Builtin.copy_]
  simp [run_underlying he.under, Builtin.lenOf, hmin, sizeOf, typeInfo, e1, e3, hfirst, r1, goInt]

theorem x_buildR {S : World → Prop} {L : List (Nat × Value)} {d : Option Tmp} {x : Operand} {s : Int} {ty : TypeId} {pos : String} {af : Array Edge} {g : Option (Nat × Bool)} (hx : ev L x = some (.int .i64 s)) : XS Try.prog S L ⟨d, .build 137 #[(0, x)], ty, pos, af, g⟩ (.agg #[.int .i64 s, .int .i64 0, .int .i64 0, .int .i64 0]) := fun _ _ w hE _ => by
  obtain ⟨i1, z1, h1, _, s1, _⟩ := tv_2.info
  obtain ⟨i2, z2, h2, _, s2, _⟩ := tv_135.info
  obtain ⟨i3, z3, h3, e3, s3, c3⟩ := tv_137.info
  have hz : (zeroValue 137).run Try.prog w = .ok z3 w := by simp [zeroValue, typeInfo, h3, e3]
  simp only [List.length_cons, List.length_nil] at s1 s2
  simp only [execOp, Instr.build, List.map_toArray, List.map_cons, List.map_nil, hE.ev hx, Sem.run_bind, hz, Result.andThen_ok, run_underlying Try.underlying137, c3]
  simp [sizeOf, typeInfo, h1, h2, s1, s2, Instr.fill, Value.cells]

theorem held_L_e (A : Option Addr) (c : Nat) (ys : List Int) (k : Int) (z : List Int) (w : World) (h : Sl eInt w (Old w) A c ys) (sz : ys = mk_L z k) (hk : 0 ≤ k) (hk' : k + (ct_L z : Int) ≤ 1000000000000) :
    Calls Try.prog 25 #[.slice A ys.length c, .int .i64 k] w fun e w' => e = .returned (.int .i64 (k + (ct_L z : Int))) ∧ Below w.heap.size w w' := by
  subst sz
  have := held_L_c A c z k w h hk hk'
  rwa [show z.length = (mk_L z k).length from (mkL_len _ _ _ _).symm] at this

theorem cntL_cost {α : Type} {c f : α → Nat} (h : ∀ x, c x ≤ 4 * f x + 4) (xs : List α) : cntL c xs ≤ 4 * costL f xs := by
  unfold cntL costL
  induction xs with
  | nil => simp
  | cons x xs ih =>
    rw [List.map_cons, List.sum_cons, List.map_cons, List.sum_cons, List.length_cons]
    have := h x
    omega

theorem cntL_bound {α : Type} {c : α → Nat} {n : Nat} : ∀ {xs : List α}, (∀ x ∈ xs, c x ≤ n) → cntL c xs ≤ n * xs.length
  | [], _ => by simp [cntL]
  | x :: xs, h => by
    have h1 := cntL_bound (c := c) (n := n) (xs := xs) fun y hy => h y (by simp [hy])
    have h2 := h x (by simp)
    unfold cntL at h1 ⊢
    rw [List.map_cons, List.sum_cons, List.length_cons, Nat.mul_succ]
    omega

theorem ct_L_len (xs : List Int) : ct_L xs = xs.length := by
  have := cntL_const ct_i 1 xs fun _ => rfl
  unfold ct_L; omega

theorem ct_cost_SMultiRule (xs : List tMultiRule) : ct_SMultiRule xs ≤ 4 * cost_SMultiRule xs := cntL_cost (fun x => by
  have h1 := ct_L_len x.2.1
  have h2 := ct_L_len x.2.2.1
  have h3 := ct_L_len x.2.2.2.1
  unfold ct_MultiRule cost_MultiRule cost_L; omega) xs

theorem cv_cost_Multi (x : tMulti) : cv_Multi x ≤ 4 * cost_Multi x := ct_cost_SMultiRule x.2.2.2

def mkR_SMultiRule (xs : List tMultiRule) (k : Int) : Int × List tMultiRule := (k + (ct_SMultiRule xs : Int), mk_SMultiRule xs k)

set_option maxRecDepth 100000 in
set_option maxHeartbeats 4000000 in
theorem mark_SMultiRule_h (M : Nat → Prop) (A0 : Option Addr) (c0 : Nat) (a0 : (List tMultiRule)) (S0 : Nat → Prop) (a1 : Int) (w : World) (HM : Held M w [rSo eMultiRule S0 A0 c0 a0] w) (s0 : 0 ≤ a1) (s1 : a1 + (ct_SMultiRule a0 : Int) ≤ 1000000000000) :
    Calls Try.prog 68 #[.slice A0 a0.length c0, .int .i64 a1] w fun e w' => ∃ (S0' : Nat → Prop), e = .returned (.int .i64 ((mkR_SMultiRule a0 a1).1)) ∧ Held M w [rSo eMultiRule S0' A0 c0 (mkR_SMultiRule a0 a1).2] w' := by
  have HH1 := HM
  have l0 := (HH1.sl (i := 0) rfl).len
  refine enter (n := 48) Try.func68 rfl rfl rfl fun a_2 HE3 => ?_
  refine wp_seq ?_
  refine rg ?_
  refine pl_x HE3 HH1 (wt0 rfl) (x_assign rfl) rfl rfl fun a_4 HE5 => ?_
  refine wpList_nil ?_
  clear a_2 HE3
  refine nrm ?_
  refine wp_seq ?_
  refine wp_seq ?_
  refine rg ?_
  refine pl_x HE5 HH1 (wt0 rfl) (x_assign rfl) rfl rfl fun a_6 HE7 => ?_
  refine wpList_nil ?_
  clear a_4 HE5
  refine nrm ?_
  refine wp_block ?_
  refine lp (fun m a w' => ∃ (i : Nat) (S_0 : Nat → Prop), m = a0.length - i ∧ Env 48 [(1, .int .i64 (a1 + (cntL ct_MultiRule (a0.take i) : Int))), (5, .int .i64 (i : Int)), (0, .slice A0 (a0.length) c0)] a ∧ Held M w [rSo eMultiRule S_0 A0 c0 (mkTo mk_MultiRule ct_MultiRule a0 a1 i)] w' ∧ (i ≤ a0.length)) (a0.length - (0)) ?_ ?_
  · have E21 : mkTo mk_MultiRule ct_MultiRule a0 a1 0 = a0 := by
      exact mkTo_zero _ _ _ _
    exact ⟨0, S0, rfl, HE7.sub ⟨(lkI rfl (by simp [cntL])), (lkI rfl (by first | rfl | omega | (simp []; done))), rfl, trivial⟩, ((HH1.sel [0] (by decide) rfl).to (by first | rfl | (rw [E21]; done) | (rw [E21]; rfl) | (simp only [E21]; done) | (simp only [E21]; rfl) | (rw [E21]; simp only [List.length_set]; done))), (by first | omega | assumption | (simp; done) | simp_all)⟩
  · rintro m a_8 w' ⟨i, S_0, rfl, HE9, HH10, p22_0⟩
    have hl0 : (mkTo mk_MultiRule ct_MultiRule a0 a1 i).length = a0.length := mkTo_len _ _ _ _ _
    refine wp_seq ?_
    refine wp_seq ?_
    refine rg ?_
    refine pl_x HE9 HH10 (wt0 rfl) (x_move rfl) rfl rfl fun a_11 HE12 => ?_
    refine pl_x HE12 HH10 (wt0 rfl) (x_move rfl) rfl rfl fun a_13 HE14 => ?_
    refine pl_x HE14 HH10 (wt0 rfl) (x_len Try.underlying53 rfl) rfl rfl fun a_15 HE16 => ?_
    refine pl_x HE16 HH10 (wt0 rfl) (x_lss rfl rfl) rfl rfl fun a_17 HE18 => ?_
    refine wpList_nil ?_
    clear a_6 HE7 HH1 a_8 HE9 a_11 HE12 a_13 HE14 a_15 HE16
    refine nrm ?_
    refine cnd_d HE18 rfl (fun hc23 => ?_) (fun hc23 => ?_)
    · refine wp_skip ?_
      refine nrm ?_
      refine wp_seq ?_
      refine wp_block ?_
      refine wp_seq ?_
      refine rg ?_
      refine pl_x HE18 HH10 (wt0 rfl) (x_move rfl) rfl rfl fun a_19 HE20 => ?_
      refine pl_x HE20 HH10 (wt0 rfl) (x_move rfl) rfl rfl fun a_21 HE22 => ?_
      refine pl_x HE22 HH10 (wt0 rfl) (x_move rfl) rfl rfl fun a_23 HE24 => ?_
      have ke24 : i < List.length (mkTo mk_MultiRule ct_MultiRule a0 a1 i) := by first | omega | (rw [mkTo_len]; omega)
      have ne24 : i < a0.length := by omega
      obtain ⟨be24, fe24, ese24, Te24, rfl, Re24, Ze24, HH25⟩ := HH10.open ke24
      obtain ⟨e24, xe24⟩ : ∃ x_, x_ = (mkTo mk_MultiRule ct_MultiRule a0 a1 i)[i] := ⟨_, rfl⟩
      rw [← xe24] at Re24
      rw [← xe24] at HH25
      obtain ⟨Ae24_1, ce24_1, Ae24_2, ce24_2, Ae24_3, ce24_3, rfl, ge24_0, ge24_1, ge24_2, ge24_3, ge24_4⟩ := shape_MultiRule Re24
      clear Re24
      have je24_0 := ge24_0; unfold I64 at je24_0
      have je24_4 := ge24_4; unfold I64 at je24_4
      have hxe24 : e24 = a0[i] := by have hq := mkTo_get mk_MultiRule ct_MultiRule a0 a1 i (by omega); rw [List.getElem?_eq_getElem (by rw [mkTo_len]; omega)] at hq; rw [xe24]; exact Option.some.inj hq
      have hc1 := cntL_take ct_MultiRule a0 i (by omega)
      have hc2 : cntL ct_MultiRule (a0.take (i + 1)) ≤ ct_SMultiRule a0 := cntL_le ct_MultiRule a0 (i + 1)
      rw [← hxe24] at hc1
      have hc3 : ct_MultiRule e24 = 1 + ct_L e24.2.1 + ct_L e24.2.2.1 + ct_L e24.2.2.2.1 + 1 := rfl
      have HH26 := HH25.sel [1, 0] (by decide) rfl
      have HH27 := HH26.unF rfl
      obtain ⟨S25, S26, HH28⟩ := HH27.unP rfl
      have HH29 := HH28.sel [1, 0, 2] (by decide) rfl
      obtain ⟨S27, S28, HH30⟩ := HH29.unP rfl
      have HH31 := HH30.sel [1, 0, 2, 3] (by decide) rfl
      obtain ⟨S29, S30, HH32⟩ := HH31.unP rfl
      have HH33 := HH32.sel [1, 0, 2, 3, 4] (by decide) rfl
      have HH34 := HH33.sel [1, 2, 3, 4] (by decide) rfl
      refine pl_x HE24 HH34 (wt0 rfl) (x_indexAddr ts_53 rfl rfl rfl rfl ne24) rfl rfl fun a_35 HE36 => ?_
      refine pl_x HE36 HH34 (wt0 rfl) (x_fieldAddr fa_104_0 rfl) rfl rfl fun a_37 HE38 => ?_
      refine pl fun K_39 hK40 => ?_
      refine st_storeF (j := 0) 3 HE38 HH34 tv_2 rfl rfl rfl rfl rfl rfl (wt0 rfl) fun w' HH41 => hK40 _ _ ?_
      refine wpList_nil ?_
      clear a_17 HE18 a_19 HE20 a_21 HE22 HH10 HH25 HH26 HH27 HH28 HH29 HH30 HH31 HH32 HH33 a_23 HE24 a_35 HE36 HH34 hK40 K_39
      refine nrm ?_
      refine wp_seq ?_
      refine rg ?_
      refine pl_x HE38 HH41 (wt0 rfl) (x_move rfl) rfl rfl fun a_42 HE43 => ?_
      refine pl_x HE43 HH41 (wt0 rfl) (x_add rfl rfl (by exact ⟨by omega, by omega⟩)) rfl rfl fun a_44 HE45 => ?_
      refine pl_x HE45 HH41 (wt0 rfl) (x_assign rfl) rfl rfl fun a_46 HE47 => ?_
      refine wpList_nil ?_
      clear a_37 HE38 a_42 HE43 a_44 HE45
      refine nrm ?_
      refine wp_seq ?_
      refine rg ?_
      refine pl_x HE47 HH41 (wt0 rfl) (x_move rfl) rfl rfl fun a_48 HE49 => ?_
      refine pl_x HE49 HH41 (wt0 rfl) (x_move rfl) rfl rfl fun a_50 HE51 => ?_
      refine pl_x HE51 HH41 (wt0 rfl) (x_indexAddr ts_53 rfl rfl rfl rfl ne24) rfl rfl fun a_52 HE53 => ?_
      refine pl_x HE53 HH41 (wt0 rfl) (x_fieldAddr fa_104_1 rfl) rfl rfl fun a_54 HE55 => ?_
      refine pl_x HE55 HH41 (wt0 rfl) (x_load1 tv_37 rfl (c_foc (E := eMultiRule) (off := fe24) (k := i) (j := 1) 3 rfl rfl)) rfl rfl fun a_56 HE57 => ?_
      refine pl_x HE57 HH41 (wt0 rfl) (x_move rfl) rfl rfl fun a_58 HE59 => ?_
      refine pl fun K_60 hK61 => ?_
      refine st_call HE59 (wt0 rfl) rfl rfl rfl en_23 rfl rfl (mark_L_c _ _ e24.2.1 ((a1 + (cntL ct_MultiRule (a0.take i) : Int)) + 1) _ _ (so_of_o (HH41.get (i := 2) rfl)) (HH41.lt (i := 2) rfl) (by omega) (by omega)) fun e w' hr => ?_
      obtain ⟨rfl, hsr31, hcr31⟩ := hr
      have HH62 := HH41.mut (i := 2) rfl hcr31 (rSo eInt S25 Ae24_1 ce24_1 (mk_L e24.2.1 ((a1 + (cntL ct_MultiRule (a0.take i) : Int)) + 1))) (oSl hsr31) (fun b hb => .inl hb)
      clear hsr31 hcr31
      refine ⟨_, rfl, fun a_63 HE64 => hK61 _ _ ?_⟩
      refine pl_x HE64 HH62 (wt0 rfl) (x_assign rfl) rfl rfl fun a_65 HE66 => ?_
      refine wpList_nil ?_
      clear a_46 HE47 a_48 HE49 a_50 HE51 a_52 HE53 a_54 HE55 a_56 HE57 HH41 a_58 HE59 a_63 HE64 hK61 K_60
      refine nrm ?_
      refine wp_seq ?_
      refine rg ?_
      refine pl_x HE66 HH62 (wt0 rfl) (x_move rfl) rfl rfl fun a_67 HE68 => ?_
      refine pl_x HE68 HH62 (wt0 rfl) (x_move rfl) rfl rfl fun a_69 HE70 => ?_
      refine pl_x HE70 HH62 (wt0 rfl) (x_indexAddr ts_53 rfl rfl rfl rfl ne24) rfl rfl fun a_71 HE72 => ?_
      refine pl_x HE72 HH62 (wt0 rfl) (x_fieldAddr fa_104_2 rfl) rfl rfl fun a_73 HE74 => ?_
      refine pl_x HE74 HH62 (wt0 rfl) (x_load1 tv_37 rfl (c_foc (E := eMultiRule) (off := fe24) (k := i) (j := 2) 3 rfl rfl)) rfl rfl fun a_75 HE76 => ?_
      refine pl_x HE76 HH62 (wt0 rfl) (x_move rfl) rfl rfl fun a_77 HE78 => ?_
      refine pl fun K_79 hK80 => ?_
      refine st_call HE78 (wt0 rfl) rfl rfl rfl en_23 rfl rfl (mark_L_c _ _ e24.2.2.1 (((a1 + (cntL ct_MultiRule (a0.take i) : Int)) + 1) + (ct_L e24.2.1 : Int)) _ _ (so_of_o (HH62.get (i := 1) rfl)) (HH62.lt (i := 1) rfl) (by omega) (by omega)) fun e w' hr => ?_
      obtain ⟨rfl, hsr32, hcr32⟩ := hr
      have HH81 := HH62.mut (i := 1) rfl hcr32 (rSo eInt S27 Ae24_2 ce24_2 (mk_L e24.2.2.1 (((a1 + (cntL ct_MultiRule (a0.take i) : Int)) + 1) + (ct_L e24.2.1 : Int)))) (oSl hsr32) (fun b hb => .inl hb)
      clear hsr32 hcr32
      refine ⟨_, rfl, fun a_82 HE83 => hK80 _ _ ?_⟩
      refine pl_x HE83 HH81 (wt0 rfl) (x_assign rfl) rfl rfl fun a_84 HE85 => ?_
      refine wpList_nil ?_
      clear a_65 HE66 a_67 HE68 a_69 HE70 a_71 HE72 a_73 HE74 a_75 HE76 HH62 a_77 HE78 a_82 HE83 hK80 K_79
      refine nrm ?_
      refine wp_seq ?_
      refine rg ?_
      refine pl_x HE85 HH81 (wt0 rfl) (x_move rfl) rfl rfl fun a_86 HE87 => ?_
      refine pl_x HE87 HH81 (wt0 rfl) (x_move rfl) rfl rfl fun a_88 HE89 => ?_
      refine pl_x HE89 HH81 (wt0 rfl) (x_indexAddr ts_53 rfl rfl rfl rfl ne24) rfl rfl fun a_90 HE91 => ?_
      refine pl_x HE91 HH81 (wt0 rfl) (x_fieldAddr fa_104_3 rfl) rfl rfl fun a_92 HE93 => ?_
      refine pl_x HE93 HH81 (wt0 rfl) (x_load1 tv_37 rfl (c_foc (E := eMultiRule) (off := fe24) (k := i) (j := 3) 3 rfl rfl)) rfl rfl fun a_94 HE95 => ?_
      refine pl_x HE95 HH81 (wt0 rfl) (x_move rfl) rfl rfl fun a_96 HE97 => ?_
      refine pl fun K_98 hK99 => ?_
      refine st_call HE97 (wt0 rfl) rfl rfl rfl en_23 rfl rfl (mark_L_c _ _ e24.2.2.2.1 ((((a1 + (cntL ct_MultiRule (a0.take i) : Int)) + 1) + (ct_L e24.2.1 : Int)) + (ct_L e24.2.2.1 : Int)) _ _ (so_of_o (HH81.get (i := 0) rfl)) (HH81.lt (i := 0) rfl) (by omega) (by omega)) fun e w' hr => ?_
      obtain ⟨rfl, hsr33, hcr33⟩ := hr
      have HH100 := HH81.mut (i := 0) rfl hcr33 (rSo eInt S29 Ae24_3 ce24_3 (mk_L e24.2.2.2.1 ((((a1 + (cntL ct_MultiRule (a0.take i) : Int)) + 1) + (ct_L e24.2.1 : Int)) + (ct_L e24.2.2.1 : Int)))) (oSl hsr33) (fun b hb => .inl hb)
      clear hsr33 hcr33
      refine ⟨_, rfl, fun a_101 HE102 => hK99 _ _ ?_⟩
      refine pl_x HE102 HH100 (wt0 rfl) (x_assign rfl) rfl rfl fun a_103 HE104 => ?_
      refine wpList_nil ?_
      clear a_84 HE85 a_86 HE87 a_88 HE89 a_90 HE91 a_92 HE93 a_94 HE95 HH81 a_96 HE97 a_101 HE102 hK99 K_98
      refine nrm ?_
      refine wp_seq ?_
      refine rg ?_
      refine pl_x HE104 HH100 (wt0 rfl) (x_move rfl) rfl rfl fun a_105 HE106 => ?_
      refine pl_x HE106 HH100 (wt0 rfl) (x_move rfl) rfl rfl fun a_107 HE108 => ?_
      refine pl_x HE108 HH100 (wt0 rfl) (x_move rfl) rfl rfl fun a_109 HE110 => ?_
      refine pl_x HE110 HH100 (wt0 rfl) (x_indexAddr ts_53 rfl rfl rfl rfl ne24) rfl rfl fun a_111 HE112 => ?_
      refine pl_x HE112 HH100 (wt0 rfl) (x_fieldAddr fa_104_4 rfl) rfl rfl fun a_113 HE114 => ?_
      refine pl fun K_115 hK116 => ?_
      refine st_storeF (j := 4) 3 HE114 HH100 tv_2 rfl rfl rfl rfl rfl rfl (wt0 rfl) fun w' HH117 => hK116 _ _ ?_
      refine wpList_nil ?_
      clear a_103 HE104 a_105 HE106 a_107 HE108 a_109 HE110 a_111 HE112 HH100 hK116 K_115
      refine nrm ?_
      refine rg ?_
      refine pl_x HE114 HH117 (wt0 rfl) (x_move rfl) rfl rfl fun a_118 HE119 => ?_
      refine pl_x HE119 HH117 (wt0 rfl) (x_add rfl rfl (by exact ⟨by omega, by omega⟩)) rfl rfl fun a_120 HE121 => ?_
      refine pl_x HE121 HH117 (wt0 rfl) (x_assign rfl) rfl rfl fun a_122 HE123 => ?_
      refine wpList_nil ?_
      clear a_113 HE114 a_118 HE119 a_120 HE121
      refine blk_n ?_
      refine nrm ?_
      refine rg ?_
      refine pl_x HE123 HH117 (wt0 rfl) (x_move rfl) rfl rfl fun a_124 HE125 => ?_
      refine pl_x HE125 HH117 (wt0 rfl) (x_add rfl rfl (by exact ⟨by omega, by omega⟩)) rfl rfl fun a_126 HE127 => ?_
      refine pl_x HE127 HH117 (wt0 rfl) (x_assign rfl) rfl rfl fun a_128 HE129 => ?_
      refine wpList_nil ?_
      clear a_122 HE123 a_124 HE125 a_126 HE127
      have HH130 := HH117.sel [2, 0, 1, 3] (by decide) rfl
      have HH131 := HH130.relen (n := e24.2.1.length) (by first | exact mkL_len _ _ _ _ | (simp; done) | (simp; omega))
      have HH132 := HH131.sel [2, 0, 1, 3] (by decide) rfl
      have HH133 := HH132.relen (n := e24.2.2.1.length) (by first | exact mkL_len _ _ _ _ | (simp; done) | (simp; omega))
      have HH134 := HH133.sel [2, 0, 1, 3] (by decide) rfl
      have HH135 := HH134.relen (n := e24.2.2.2.1.length) (by first | exact mkL_len _ _ _ _ | (simp; done) | (simp; omega))
      have HH136 := HH135.sel [2, 1, 0, 3] (by decide) rfl
      have HH137 := HH136.sel [2, 0, 1, 3] (by decide) rfl
      have HH138 := HH137.pairB (F := eInt) (c2 := [.int .i64 ((((((a1 + (cntL ct_MultiRule (a0.take i) : Int)) + 1) + (ct_L e24.2.1 : Int)) + (ct_L e24.2.2.1 : Int)) + (ct_L e24.2.2.2.1 : Int)))]) (y := (((((a1 + (cntL ct_MultiRule (a0.take i) : Int)) + 1) + (ct_L e24.2.1 : Int)) + (ct_L e24.2.2.1 : Int)) + (ct_L e24.2.2.2.1 : Int))) (oI (by exact ⟨by omega, by omega⟩))
      have HH139 := HH138.sel [2, 0, 1, 3] (by decide) rfl
      have HH140 := HH139.pair
      have HH141 := HH140.sel [1, 0, 2] (by decide) rfl
      have HH142 := HH141.pair
      have HH143 := HH142.pairF (E := eInt) (c1 := [.int .i64 ((a1 + (cntL ct_MultiRule (a0.take i) : Int)))]) (x := (a1 + (cntL ct_MultiRule (a0.take i) : Int))) (oI (by exact ⟨by omega, by omega⟩))
      obtain ⟨S34, HH144⟩ : ∃ S, Held M w (rO eMultiRule S [.int .i64 ((a1 + (cntL ct_MultiRule (a0.take i) : Int))), .slice Ae24_1 (e24.2.1.length) ce24_1, .slice Ae24_2 (e24.2.2.1.length) ce24_2, .slice Ae24_3 (e24.2.2.2.1.length) ce24_3, .int .i64 ((((((a1 + (cntL ct_MultiRule (a0.take i) : Int)) + 1) + (ct_L e24.2.1 : Int)) + (ct_L e24.2.2.1 : Int)) + (ct_L e24.2.2.2.1 : Int)))] ((a1 + (cntL ct_MultiRule (a0.take i) : Int)), (mk_L e24.2.1 ((a1 + (cntL ct_MultiRule (a0.take i) : Int)) + 1)), (mk_L e24.2.2.1 (((a1 + (cntL ct_MultiRule (a0.take i) : Int)) + 1) + (ct_L e24.2.1 : Int))), (mk_L e24.2.2.2.1 ((((a1 + (cntL ct_MultiRule (a0.take i) : Int)) + 1) + (ct_L e24.2.1 : Int)) + (ct_L e24.2.2.1 : Int))), (((((a1 + (cntL ct_MultiRule (a0.take i) : Int)) + 1) + (ct_L e24.2.1 : Int)) + (ct_L e24.2.2.1 : Int)) + (ct_L e24.2.2.2.1 : Int))) :: _) _ := ⟨_, HH143⟩
      have HH145 := HH144.sel [1, 0] (by decide) rfl
      have HH146 := HH145.shut
      obtain ⟨S35, HH147⟩ : ∃ S, Held M w (rSo eMultiRule S (some ⟨be24, fe24, none⟩) c0 ((mkTo mk_MultiRule ct_MultiRule a0 a1 i).set i ((a1 + (cntL ct_MultiRule (a0.take i) : Int)), (mk_L e24.2.1 ((a1 + (cntL ct_MultiRule (a0.take i) : Int)) + 1)), (mk_L e24.2.2.1 (((a1 + (cntL ct_MultiRule (a0.take i) : Int)) + 1) + (ct_L e24.2.1 : Int))), (mk_L e24.2.2.2.1 ((((a1 + (cntL ct_MultiRule (a0.take i) : Int)) + 1) + (ct_L e24.2.1 : Int)) + (ct_L e24.2.2.1 : Int))), (((((a1 + (cntL ct_MultiRule (a0.take i) : Int)) + 1) + (ct_L e24.2.1 : Int)) + (ct_L e24.2.2.1 : Int)) + (ct_L e24.2.2.2.1 : Int)))) :: _) _ := ⟨_, HH146⟩
      have E36 : mkTo mk_MultiRule ct_MultiRule a0 a1 (i + 1) = ((mkTo mk_MultiRule ct_MultiRule a0 a1 i).set i ((a1 + (cntL ct_MultiRule (a0.take i) : Int)), (mk_L e24.2.1 ((a1 + (cntL ct_MultiRule (a0.take i) : Int)) + 1)), (mk_L e24.2.2.1 (((a1 + (cntL ct_MultiRule (a0.take i) : Int)) + 1) + (ct_L e24.2.1 : Int))), (mk_L e24.2.2.2.1 ((((a1 + (cntL ct_MultiRule (a0.take i) : Int)) + 1) + (ct_L e24.2.1 : Int)) + (ct_L e24.2.2.1 : Int))), (((((a1 + (cntL ct_MultiRule (a0.take i) : Int)) + 1) + (ct_L e24.2.1 : Int)) + (ct_L e24.2.2.1 : Int)) + (ct_L e24.2.2.2.1 : Int)))) := by
        rw [← mkTo_step mk_MultiRule ct_MultiRule a0 a1 i (by omega), ← hxe24]; rfl
      exact nrm ⟨a0.length - (i + 1), (by omega), i + 1, S35, rfl, HE129.sub ⟨(lkI rfl (by omega)), (lkI rfl (by first | rfl | omega | (simp [p22_0, hc23, xe24]; done))), rfl, trivial⟩, ((HH147.sel [0] (by decide) rfl).to (by first | rfl | (rw [E36]; done) | (rw [E36]; rfl) | (simp only [E36]; done) | (simp only [E36]; rfl) | (rw [E36]; simp only [List.length_set]; done))), (by first | omega | assumption | (simp; done) | simp_all)⟩
    · refine wp_exit ?_
      refine (thn_exit (thn_exit (blk_hit ?_)))
      refine nrm ?_
      refine wp_seq ?_
      refine rg ?_
      refine pl_x HE18 HH10 (wt0 rfl) (x_move rfl) rfl rfl fun a_148 HE149 => ?_
      refine pl_x HE149 HH10 (wt0 rfl) (x_assign rfl) rfl rfl fun a_150 HE151 => ?_
      refine wpList_nil ?_
      clear a_17 HE18 a_148 HE149
      refine nrm ?_
      refine wp_ret ?_
      refine ret1 HE151 rfl (rv_tmp rfl) ?_
      have hF : (mkR_SMultiRule a0 a1) = ((a1 + (cntL ct_MultiRule (a0.take i) : Int)), mkTo mk_MultiRule ct_MultiRule a0 a1 i) := by
        unfold mkR_SMultiRule ct_SMultiRule mk_SMultiRule; rw [show i = a0.length from by omega, mkTo_end, List.take_length]
      exact ⟨_, by first | (rw [hF] <;> rfl) | rfl | (rw [hF]; simp only [Ending.returned.injEq, Value.slice.injEq, true_and, and_true]; first | omega | (simp; done)) | (rw [hF]; simp; omega), by rw [hF]; exact HH10.sel [0] (by decide) rfl⟩

set_option maxRecDepth 100000 in
set_option maxHeartbeats 4000000 in
theorem held_SMultiRule_e (A0 : Option Addr) (c0 : Nat) (a0 : (List tMultiRule)) (a1 : Int) (z : List tMultiRule) (w : World) (h0 : Sl eMultiRule w (Old w) A0 c0 a0) (sz : a0 = mk_SMultiRule z a1) (s0 : 0 ≤ a1) (s1 : a1 + (ct_SMultiRule z : Int) ≤ 1000000000000) :
    Calls Try.prog 74 #[.slice A0 a0.length c0, .int .i64 a1] w fun e w' => e = .returned (.int .i64 (a1 + (ct_SMultiRule z : Int))) ∧ Below w.heap.size w w' := by
  have l0 := h0.len
  have hz0 : a0.length = z.length := by rw [sz]; exact mkL_len _ _ _ _
  have HH1 := Held.start Nob w
  refine enter (n := 58) Try.func74 rfl rfl rfl fun a_2 HE3 => ?_
  refine wp_seq ?_
  refine rg ?_
  refine pl_x HE3 HH1 (wt0 rfl) (x_assign rfl) rfl rfl fun a_4 HE5 => ?_
  refine wpList_nil ?_
  clear a_2 HE3
  refine nrm ?_
  refine wp_seq ?_
  refine wp_seq ?_
  refine rg ?_
  refine pl_x HE5 HH1 (wt0 rfl) (x_assign rfl) rfl rfl fun a_6 HE7 => ?_
  refine wpList_nil ?_
  clear a_4 HE5
  refine nrm ?_
  refine wp_block ?_
  refine lp (fun m a w' => ∃ (i : Nat), m = a0.length - i ∧ Env 58 [(1, .int .i64 (a1 + (cntL ct_MultiRule (z.take i) : Int))), (5, .int .i64 (i : Int)), (0, .slice A0 (a0.length) c0)] a ∧ Held Nob w [] w' ∧ (i ≤ a0.length)) (a0.length - (0)) ?_ ?_
  · exact ⟨0, rfl, HE7.sub ⟨(lkI rfl (by simp [cntL])), (lkI rfl (by first | rfl | omega | (simp []; done))), rfl, trivial⟩, (HH1.sel [] (by decide) rfl), (by first | omega | assumption | (simp; done) | simp_all)⟩
  · rintro m a_8 w' ⟨i, rfl, HE9, HH10, p21_0⟩
    refine wp_seq ?_
    refine wp_seq ?_
    refine rg ?_
    refine pl_x HE9 HH10 (wt0 rfl) (x_move rfl) rfl rfl fun a_11 HE12 => ?_
    refine pl_x HE12 HH10 (wt0 rfl) (x_move rfl) rfl rfl fun a_13 HE14 => ?_
    refine pl_x HE14 HH10 (wt0 rfl) (x_len Try.underlying53 rfl) rfl rfl fun a_15 HE16 => ?_
    refine pl_x HE16 HH10 (wt0 rfl) (x_lss rfl rfl) rfl rfl fun a_17 HE18 => ?_
    refine wpList_nil ?_
    clear a_6 HE7 HH1 a_8 HE9 a_11 HE12 a_13 HE14 a_15 HE16
    refine nrm ?_
    refine cnd_d HE18 rfl (fun hc22 => ?_) (fun hc22 => ?_)
    · refine wp_skip ?_
      refine nrm ?_
      refine wp_seq ?_
      refine wp_block ?_
      refine wp_seq ?_
      refine wp_seq ?_
      refine rg ?_
      refine pl_x HE18 HH10 (wt0 rfl) (x_move rfl) rfl rfl fun a_19 HE20 => ?_
      refine pl_x HE20 HH10 (wt0 rfl) (x_move rfl) rfl rfl fun a_21 HE22 => ?_
      have ke23 : i < a0.length := by omega
      obtain ⟨be23, fe23, ese23, Ae23, Re23, De23⟩ := el_old h0 ke23
      obtain ⟨e23, xe23⟩ : ∃ x_, x_ = a0[i] := ⟨_, rfl⟩
      rw [← xe23] at Re23
      have Qe23 := Re23
      obtain ⟨Ae23_1, ce23_1, Ae23_2, ce23_2, Ae23_3, ce23_3, rfl, ge23_0, ge23_1, ge23_2, ge23_3, ge23_4⟩ := shape_MultiRule Re23
      have je23_0 := ge23_0; unfold I64 at je23_0
      have le23_1 := ge23_1.len
      have le23_2 := ge23_2.len
      have le23_3 := ge23_3.len
      have je23_4 := ge23_4; unfold I64 at je23_4
      obtain ⟨ze23, hze23⟩ : ∃ y, y = z[i]'(by omega) := ⟨_, rfl⟩
      have hxe23 : e23 = mk_MultiRule ze23 (a1 + (cntL ct_MultiRule (z.take i) : Int)) := by rw [xe23, hze23]; have hq := mkL_get mk_MultiRule ct_MultiRule z a1 i (by omega); have hr : a0[i]? = some _ := (by rw [sz]; exact hq); rw [List.getElem?_eq_getElem (by omega)] at hr; exact Option.some.inj hr
      have hc1 := cntL_take ct_MultiRule z i (by omega)
      have hc2 : cntL ct_MultiRule (z.take (i + 1)) ≤ ct_SMultiRule z := cntL_le ct_MultiRule z (i + 1)
      rw [← hze23] at hc1
      have hc3 : ct_MultiRule ze23 = 1 + ct_L ze23.2.1 + ct_L ze23.2.2.1 + ct_L ze23.2.2.2.1 + 1 := rfl
      have hi0e23 : e23.1 = (a1 + (cntL ct_MultiRule (z.take i) : Int)) := by rw [hxe23]; rfl
      have hi4e23 : e23.2.2.2.2 = (a1 + (cntL ct_MultiRule (z.take i) : Int)) + 1 + ((ct_L ze23.2.1 : Nat) : Int) + ((ct_L ze23.2.2.1 : Nat) : Int) + ((ct_L ze23.2.2.2.1 : Nat) : Int) := by rw [hxe23]; rfl
      refine pl_x HE22 HH10 (wt0 rfl) (x_indexAddr ts_53 rfl rfl Ae23 rfl ke23) rfl rfl fun a_23 HE24 => ?_
      refine pl_x HE24 HH10 (wt0 rfl) (x_fieldAddr fa_104_0 rfl) rfl rfl fun a_25 HE26 => ?_
      refine pl_x HE26 HH10 (wt0 rfl) (x_load1 tv_2 rfl (c_old (De23 0 _ rfl))) rfl rfl fun a_27 HE28 => ?_
      refine pl_x HE28 HH10 (wt0 rfl) (x_move rfl) rfl rfl fun a_29 HE30 => ?_
      refine pl_x HE30 HH10 (wt0 rfl) (x_neq rfl rfl) rfl rfl fun a_31 HE32 => ?_
      refine wpList_nil ?_
      clear a_17 HE18 a_19 HE20 a_21 HE22 a_23 HE24 a_25 HE26 a_27 HE28 a_29 HE30
      refine nrm ?_
      refine cnd_ne HE32 rfl (fun hc24 => ?_) (fun hc24 => ?_)
      · refine wp_seq ?_
        refine rg ?_
        refine pl_x HE32 HH10 (wt0 rfl) (x_assign rfl) rfl rfl fun a_33 HE34 => ?_
        refine wpList_nil ?_
        clear a_31 HE32
        refine nrm ?_
        refine wp_ret ?_
        refine (thn_ret (blk_ret (thn_ret (thn_ret (blk_ret (thn_ret ?_))))))
        refine ret1 HE34 rfl (rv_tmp rfl) ?_
        have hF : (a1 + (ct_SMultiRule z : Int)) = -1 := by
          first | (exfalso; omega) | (rw [show i = z.length from by omega, List.take_length]; rfl)
        exact ⟨by first | (rw [hF] <;> rfl) | rfl | (rw [hF]; simp only [Ending.returned.injEq, Value.slice.injEq, true_and, and_true]; first | omega | (simp; done)) | (rw [hF]; simp; omega), HH10.below⟩
      · refine wp_skip ?_
        refine nrm ?_
        refine wp_seq ?_
        refine rg ?_
        refine pl_x HE32 HH10 (wt0 rfl) (x_move rfl) rfl rfl fun a_35 HE36 => ?_
        refine pl_x HE36 HH10 (wt0 rfl) (x_add rfl rfl (by exact ⟨by omega, by omega⟩)) rfl rfl fun a_37 HE38 => ?_
        refine pl_x HE38 HH10 (wt0 rfl) (x_assign rfl) rfl rfl fun a_39 HE40 => ?_
        refine wpList_nil ?_
        clear a_31 HE32 a_35 HE36 a_37 HE38
        refine nrm ?_
        refine wp_seq ?_
        refine rg ?_
        refine pl_x HE40 HH10 (wt0 rfl) (x_move rfl) rfl rfl fun a_41 HE42 => ?_
        refine pl_x HE42 HH10 (wt0 rfl) (x_move rfl) rfl rfl fun a_43 HE44 => ?_
        refine pl_x HE44 HH10 (wt0 rfl) (x_indexAddr ts_53 rfl rfl Ae23 rfl ke23) rfl rfl fun a_45 HE46 => ?_
        refine pl_x HE46 HH10 (wt0 rfl) (x_fieldAddr fa_104_1 rfl) rfl rfl fun a_47 HE48 => ?_
        refine pl_x HE48 HH10 (wt0 rfl) (x_load1 tv_37 rfl (c_old (De23 1 _ rfl))) rfl rfl fun a_49 HE50 => ?_
        refine pl_x HE50 HH10 (wt0 rfl) (x_move rfl) rfl rfl fun a_51 HE52 => ?_
        refine pl fun K_53 hK54 => ?_
        refine st_call HE52 (wt0 rfl) rfl rfl rfl en_25 rfl rfl (held_L_e _ _ e23.2.1 ((a1 + (cntL ct_MultiRule (z.take i) : Int)) + 1) ze23.2.1 _ (HH10.old ge23_1) (by rw [hxe23]; rfl) (by omega) (by omega)) fun e w' hr => ?_
        obtain ⟨rfl, hbr25⟩ := hr
        have HH55 := HH10.on hbr25
        clear hbr25
        refine ⟨_, rfl, fun a_56 HE57 => hK54 _ _ ?_⟩
        refine pl_x HE57 HH55 (wt0 rfl) (x_assign rfl) rfl rfl fun a_58 HE59 => ?_
        refine wpList_nil ?_
        clear a_39 HE40 a_41 HE42 a_43 HE44 a_45 HE46 a_47 HE48 a_49 HE50 HH10 a_51 HE52 a_56 HE57 hK54 K_53
        refine nrm ?_
        refine wp_seq ?_
        refine wp_seq ?_
        refine rg ?_
        refine pl_x HE59 HH55 (wt0 rfl) (x_move rfl) rfl rfl fun a_60 HE61 => ?_
        refine pl_x HE61 HH55 (wt0 rfl) (x_lss rfl rfl) rfl rfl fun a_62 HE63 => ?_
        refine wpList_nil ?_
        clear a_58 HE59 a_60 HE61
        refine nrm ?_
        refine cnd_d HE63 rfl (fun hc26 => ?_) (fun hc26 => ?_)
        · refine wp_seq ?_
          refine rg ?_
          refine pl_x HE63 HH55 (wt0 rfl) (x_assign rfl) rfl rfl fun a_64 HE65 => ?_
          refine wpList_nil ?_
          clear a_62 HE63
          refine nrm ?_
          refine wp_ret ?_
          refine (thn_ret (blk_ret (thn_ret (thn_ret (blk_ret (thn_ret ?_))))))
          refine ret1 HE65 rfl (rv_tmp rfl) ?_
          have hF : (a1 + (ct_SMultiRule z : Int)) = -1 := by
            first | (exfalso; omega) | (rw [show i = z.length from by omega, List.take_length]; rfl)
          exact ⟨by first | (rw [hF] <;> rfl) | rfl | (rw [hF]; simp only [Ending.returned.injEq, Value.slice.injEq, true_and, and_true]; first | omega | (simp; done)) | (rw [hF]; simp; omega), HH55.below⟩
        · refine wp_skip ?_
          refine nrm ?_
          refine wp_seq ?_
          refine rg ?_
          refine pl_x HE63 HH55 (wt0 rfl) (x_move rfl) rfl rfl fun a_66 HE67 => ?_
          refine pl_x HE67 HH55 (wt0 rfl) (x_move rfl) rfl rfl fun a_68 HE69 => ?_
          refine pl_x HE69 HH55 (wt0 rfl) (x_indexAddr ts_53 rfl rfl Ae23 rfl ke23) rfl rfl fun a_70 HE71 => ?_
          refine pl_x HE71 HH55 (wt0 rfl) (x_fieldAddr fa_104_2 rfl) rfl rfl fun a_72 HE73 => ?_
          refine pl_x HE73 HH55 (wt0 rfl) (x_load1 tv_37 rfl (c_old (De23 2 _ rfl))) rfl rfl fun a_74 HE75 => ?_
          refine pl_x HE75 HH55 (wt0 rfl) (x_move rfl) rfl rfl fun a_76 HE77 => ?_
          refine pl fun K_78 hK79 => ?_
          refine st_call HE77 (wt0 rfl) rfl rfl rfl en_25 rfl rfl (held_L_e _ _ e23.2.2.1 (((a1 + (cntL ct_MultiRule (z.take i) : Int)) + 1) + (ct_L ze23.2.1 : Int)) ze23.2.2.1 _ (HH55.old ge23_2) (by rw [hxe23]; rfl) (by omega) (by omega)) fun e w' hr => ?_
          obtain ⟨rfl, hbr27⟩ := hr
          have HH80 := HH55.on hbr27
          clear hbr27
          refine ⟨_, rfl, fun a_81 HE82 => hK79 _ _ ?_⟩
          refine pl_x HE82 HH80 (wt0 rfl) (x_assign rfl) rfl rfl fun a_83 HE84 => ?_
          refine wpList_nil ?_
          clear a_62 HE63 a_66 HE67 a_68 HE69 a_70 HE71 a_72 HE73 a_74 HE75 HH55 a_76 HE77 a_81 HE82 hK79 K_78
          refine nrm ?_
          refine wp_seq ?_
          refine wp_seq ?_
          refine rg ?_
          refine pl_x HE84 HH80 (wt0 rfl) (x_move rfl) rfl rfl fun a_85 HE86 => ?_
          refine pl_x HE86 HH80 (wt0 rfl) (x_lss rfl rfl) rfl rfl fun a_87 HE88 => ?_
          refine wpList_nil ?_
          clear a_83 HE84 a_85 HE86
          refine nrm ?_
          refine cnd_d HE88 rfl (fun hc28 => ?_) (fun hc28 => ?_)
          · refine wp_seq ?_
            refine rg ?_
            refine pl_x HE88 HH80 (wt0 rfl) (x_assign rfl) rfl rfl fun a_89 HE90 => ?_
            refine wpList_nil ?_
            clear a_87 HE88
            refine nrm ?_
            refine wp_ret ?_
            refine (thn_ret (blk_ret (thn_ret (thn_ret (blk_ret (thn_ret ?_))))))
            refine ret1 HE90 rfl (rv_tmp rfl) ?_
            have hF : (a1 + (ct_SMultiRule z : Int)) = -1 := by
              first | (exfalso; omega) | (rw [show i = z.length from by omega, List.take_length]; rfl)
            exact ⟨by first | (rw [hF] <;> rfl) | rfl | (rw [hF]; simp only [Ending.returned.injEq, Value.slice.injEq, true_and, and_true]; first | omega | (simp; done)) | (rw [hF]; simp; omega), HH80.below⟩
          · refine wp_skip ?_
            refine nrm ?_
            refine wp_seq ?_
            refine rg ?_
            refine pl_x HE88 HH80 (wt0 rfl) (x_move rfl) rfl rfl fun a_91 HE92 => ?_
            refine pl_x HE92 HH80 (wt0 rfl) (x_move rfl) rfl rfl fun a_93 HE94 => ?_
            refine pl_x HE94 HH80 (wt0 rfl) (x_indexAddr ts_53 rfl rfl Ae23 rfl ke23) rfl rfl fun a_95 HE96 => ?_
            refine pl_x HE96 HH80 (wt0 rfl) (x_fieldAddr fa_104_3 rfl) rfl rfl fun a_97 HE98 => ?_
            refine pl_x HE98 HH80 (wt0 rfl) (x_load1 tv_37 rfl (c_old (De23 3 _ rfl))) rfl rfl fun a_99 HE100 => ?_
            refine pl_x HE100 HH80 (wt0 rfl) (x_move rfl) rfl rfl fun a_101 HE102 => ?_
            refine pl fun K_103 hK104 => ?_
            refine st_call HE102 (wt0 rfl) rfl rfl rfl en_25 rfl rfl (held_L_e _ _ e23.2.2.2.1 ((((a1 + (cntL ct_MultiRule (z.take i) : Int)) + 1) + (ct_L ze23.2.1 : Int)) + (ct_L ze23.2.2.1 : Int)) ze23.2.2.2.1 _ (HH80.old ge23_3) (by rw [hxe23]; rfl) (by omega) (by omega)) fun e w' hr => ?_
            obtain ⟨rfl, hbr29⟩ := hr
            have HH105 := HH80.on hbr29
            clear hbr29
            refine ⟨_, rfl, fun a_106 HE107 => hK104 _ _ ?_⟩
            refine pl_x HE107 HH105 (wt0 rfl) (x_assign rfl) rfl rfl fun a_108 HE109 => ?_
            refine wpList_nil ?_
            clear a_87 HE88 a_91 HE92 a_93 HE94 a_95 HE96 a_97 HE98 a_99 HE100 HH80 a_101 HE102 a_106 HE107 hK104 K_103
            refine nrm ?_
            refine wp_seq ?_
            refine wp_seq ?_
            refine rg ?_
            refine pl_x HE109 HH105 (wt0 rfl) (x_move rfl) rfl rfl fun a_110 HE111 => ?_
            refine pl_x HE111 HH105 (wt0 rfl) (x_lss rfl rfl) rfl rfl fun a_112 HE113 => ?_
            refine wpList_nil ?_
            clear a_108 HE109 a_110 HE111
            refine nrm ?_
            refine cnd_d HE113 rfl (fun hc30 => ?_) (fun hc30 => ?_)
            · refine wp_seq ?_
              refine rg ?_
              refine pl_x HE113 HH105 (wt0 rfl) (x_assign rfl) rfl rfl fun a_114 HE115 => ?_
              refine wpList_nil ?_
              clear a_112 HE113
              refine nrm ?_
              refine wp_ret ?_
              refine (thn_ret (blk_ret (thn_ret (thn_ret (blk_ret (thn_ret ?_))))))
              refine ret1 HE115 rfl (rv_tmp rfl) ?_
              have hF : (a1 + (ct_SMultiRule z : Int)) = -1 := by
                first | (exfalso; omega) | (rw [show i = z.length from by omega, List.take_length]; rfl)
              exact ⟨by first | (rw [hF] <;> rfl) | rfl | (rw [hF]; simp only [Ending.returned.injEq, Value.slice.injEq, true_and, and_true]; first | omega | (simp; done)) | (rw [hF]; simp; omega), HH105.below⟩
            · refine wp_skip ?_
              refine nrm ?_
              refine wp_seq ?_
              refine wp_seq ?_
              refine rg ?_
              refine pl_x HE113 HH105 (wt0 rfl) (x_move rfl) rfl rfl fun a_116 HE117 => ?_
              refine pl_x HE117 HH105 (wt0 rfl) (x_move rfl) rfl rfl fun a_118 HE119 => ?_
              refine pl_x HE119 HH105 (wt0 rfl) (x_indexAddr ts_53 rfl rfl Ae23 rfl ke23) rfl rfl fun a_120 HE121 => ?_
              refine pl_x HE121 HH105 (wt0 rfl) (x_fieldAddr fa_104_4 rfl) rfl rfl fun a_122 HE123 => ?_
              refine pl_x HE123 HH105 (wt0 rfl) (x_load1 tv_2 rfl (c_old (De23 4 _ rfl))) rfl rfl fun a_124 HE125 => ?_
              refine pl_x HE125 HH105 (wt0 rfl) (x_move rfl) rfl rfl fun a_126 HE127 => ?_
              refine pl_x HE127 HH105 (wt0 rfl) (x_neq rfl rfl) rfl rfl fun a_128 HE129 => ?_
              refine wpList_nil ?_
              clear a_112 HE113 a_116 HE117 a_118 HE119 a_120 HE121 a_122 HE123 a_124 HE125 a_126 HE127
              refine nrm ?_
              refine cnd_ne HE129 rfl (fun hc31 => ?_) (fun hc31 => ?_)
              · refine wp_seq ?_
                refine rg ?_
                refine pl_x HE129 HH105 (wt0 rfl) (x_assign rfl) rfl rfl fun a_130 HE131 => ?_
                refine wpList_nil ?_
                clear a_128 HE129
                refine nrm ?_
                refine wp_ret ?_
                refine (thn_ret (blk_ret (thn_ret (thn_ret (blk_ret (thn_ret ?_))))))
                refine ret1 HE131 rfl (rv_tmp rfl) ?_
                have hF : (a1 + (ct_SMultiRule z : Int)) = -1 := by
                  first | (exfalso; omega) | (rw [show i = z.length from by omega, List.take_length]; rfl)
                exact ⟨by first | (rw [hF] <;> rfl) | rfl | (rw [hF]; simp only [Ending.returned.injEq, Value.slice.injEq, true_and, and_true]; first | omega | (simp; done)) | (rw [hF]; simp; omega), HH105.below⟩
              · refine wp_skip ?_
                refine nrm ?_
                refine rg ?_
                refine pl_x HE129 HH105 (wt0 rfl) (x_move rfl) rfl rfl fun a_132 HE133 => ?_
                refine pl_x HE133 HH105 (wt0 rfl) (x_add rfl rfl (by exact ⟨by omega, by omega⟩)) rfl rfl fun a_134 HE135 => ?_
                refine pl_x HE135 HH105 (wt0 rfl) (x_assign rfl) rfl rfl fun a_136 HE137 => ?_
                refine wpList_nil ?_
                clear a_128 HE129 a_132 HE133 a_134 HE135
                refine blk_n ?_
                refine nrm ?_
                refine rg ?_
                refine pl_x HE137 HH105 (wt0 rfl) (x_move rfl) rfl rfl fun a_138 HE139 => ?_
                refine pl_x HE139 HH105 (wt0 rfl) (x_add rfl rfl (by exact ⟨by omega, by omega⟩)) rfl rfl fun a_140 HE141 => ?_
                refine pl_x HE141 HH105 (wt0 rfl) (x_assign rfl) rfl rfl fun a_142 HE143 => ?_
                refine wpList_nil ?_
                clear a_136 HE137 a_138 HE139 a_140 HE141
                exact nrm ⟨a0.length - (i + 1), (by omega), i + 1, rfl, HE143.sub ⟨(lkI rfl (by omega)), (lkI rfl (by first | rfl | omega | (simp [p21_0, hc22, xe23, hc24, hc26, hc28, hc30, hc31]; done))), rfl, trivial⟩, (HH105.sel [] (by decide) rfl), (by first | omega | assumption | (simp; done) | simp_all)⟩
    · refine wp_exit ?_
      refine (thn_exit (thn_exit (blk_hit ?_)))
      refine nrm ?_
      refine wp_seq ?_
      refine rg ?_
      refine pl_x HE18 HH10 (wt0 rfl) (x_move rfl) rfl rfl fun a_144 HE145 => ?_
      refine pl_x HE145 HH10 (wt0 rfl) (x_assign rfl) rfl rfl fun a_146 HE147 => ?_
      refine wpList_nil ?_
      clear a_17 HE18 a_144 HE145
      refine nrm ?_
      refine wp_ret ?_
      refine ret1 HE147 rfl (rv_tmp rfl) ?_
      have hF : (a1 + (ct_SMultiRule z : Int)) = (a1 + (cntL ct_MultiRule (z.take i) : Int)) := by
        first | (exfalso; omega) | (rw [show i = z.length from by omega, List.take_length]; rfl)
      exact ⟨by first | (rw [hF] <;> rfl) | rfl | (rw [hF]; simp only [Ending.returned.injEq, Value.slice.injEq, true_and, and_true]; first | omega | (simp; done)) | (rw [hF]; simp; omega), HH10.below⟩

def mkR_Multi (x : tMulti) (k : Int) : Int × tMulti := (k + (cv_Multi x : Int), mv_Multi x k)

set_option maxRecDepth 100000 in
set_option maxHeartbeats 4000000 in
theorem mark_Multi_h (M : Nat → Prop) (es0 : List Value) (a0 : tMulti) (S0 : Nat → Prop) (a1 : Int) (w : World) (HM : Held M w [rO eMulti S0 es0 a0] w) (s0 : 0 ≤ a1) (s1 : a1 + (cv_Multi a0 : Int) ≤ 1000000000000) :
    Calls Try.prog 32 #[.agg es0.toArray, .int .i64 a1] w fun e w' => ∃ (S0' : Nat → Prop), e = .returned (.int .i64 ((mkR_Multi a0 a1).1)) ∧ Held M w [rO eMulti S0' es0 (mkR_Multi a0 a1).2] w' := by
  have HH1 := HM
  have R0 := HH1.rd (i := 0) rfl
  obtain ⟨Az0_3, cz0_3, rfl, gz0_0, gz0_1, gz0_2, gz0_3⟩ := shape_Multi R0
  have jz0_0 := gz0_0; unfold I64 at jz0_0
  have jz0_1 := gz0_1; unfold I64 at jz0_1
  have jz0_2 := gz0_2; unfold I64 at jz0_2
  have lz0_3 := gz0_3.len
  clear R0
  have HH2 := HH1.unF rfl
  have HH3 := HH2.unF rfl
  have HH4 := HH3.unF rfl
  have hc0 : cv_Multi a0 = ct_SMultiRule a0.2.2.2 := rfl
  refine enter (n := 10) Try.func32 rfl rfl rfl fun a_5 HE6 => ?_
  refine wp_seq ?_
  refine rg ?_
  refine pl fun K_7 hK8 => ?_
  refine st_box (cs := [.int .i64 (a0.1), .int .i64 (a0.2.1), .int .i64 (a0.2.2.1), .slice Az0_3 (a0.2.2.2.length) cz0_3]) HE6 HH4 rfl rfl (wt0 rfl) rfl fun q21 a_9 w' HE10 HH11 => hK8 _ _ ?_
  refine pl_x HE10 HH11 (wt0 rfl) (x_assign rfl) rfl rfl fun a_12 HE13 => ?_
  refine wpList_nil ?_
  clear HH1 HH2 HH3 a_5 HE6 HH4 a_9 HE10 hK8 K_7
  refine nrm ?_
  refine wp_seq ?_
  refine rg ?_
  refine pl_x HE13 HH11 (wt0 rfl) (x_fieldAddr fa_55_3 rfl) rfl rfl fun a_14 HE15 => ?_
  refine pl_x HE15 HH11 (wt0 rfl) (x_load1 tv_53 rfl (c_blk 0 rfl rfl)) rfl rfl fun a_16 HE17 => ?_
  refine pl_x HE17 HH11 (wt0 rfl) (x_move rfl) rfl rfl fun a_18 HE19 => ?_
  refine pl fun K_20 hK21 => ?_
  have HH22 := HH11.sel [1, 0] (by decide) rfl
  have HH23 : Held M w ([rSo eMultiRule S0 Az0_3 cz0_3 a0.2.2.2] ++ [rBlk q21 55 [.int .i64 (a0.1), .int .i64 (a0.2.1), .int .i64 (a0.2.2.1), .slice Az0_3 (a0.2.2.2.length) cz0_3]]) _ := HH22
  refine st_call HE19 (wt0 rfl) rfl rfl rfl en_68 rfl rfl (mark_SMultiRule_h (Foot [rSo eMultiRule S0 Az0_3 cz0_3 a0.2.2.2]) _ _ a0.2.2.2 _ a1 _ HH23.focus (by omega) (by omega)) fun e w' hr => ?_
  obtain ⟨Sr22, rfl, hbr22⟩ := hr
  have HH24 := HH23.back hbr22
  clear hbr22
  have HH25 : Held M w (rSo eMultiRule Sr22 Az0_3 cz0_3 (mk_SMultiRule a0.2.2.2 a1) :: [rBlk q21 55 [.int .i64 (a0.1), .int .i64 (a0.2.1), .int .i64 (a0.2.2.1), .slice Az0_3 (a0.2.2.2.length) cz0_3]]) _ := HH24
  refine ⟨_, rfl, fun a_26 HE27 => hK21 _ _ ?_⟩
  refine pl_x HE27 HH25 (wt0 rfl) (x_assign rfl) rfl rfl fun a_28 HE29 => ?_
  refine wpList_nil ?_
  clear a_12 HE13 a_14 HE15 a_16 HE17 HH11 HH22 HH23 HH24 a_18 HE19 a_26 HE27 hK21 K_20
  refine nrm ?_
  refine wp_seq ?_
  refine rg ?_
  refine pl_x HE29 HH25 (wt0 rfl) (x_move rfl) rfl rfl fun a_30 HE31 => ?_
  refine pl_x HE31 HH25 (wt0 rfl) (x_assign rfl) rfl rfl fun a_32 HE33 => ?_
  refine wpList_nil ?_
  clear a_28 HE29 a_30 HE31
  refine nrm ?_
  refine wp_ret ?_
  refine ret1 HE33 rfl (rv_tmp rfl) ?_
  have HH34 := HH25.relen (n := a0.2.2.2.length) (by first | exact mkL_len _ _ _ _ | (simp; done) | (simp; omega))
  have HH35 := HH34.pairF (E := eInt) (c1 := [.int .i64 (a0.2.2.1)]) (x := a0.2.2.1) (oI (by exact ⟨by omega, by omega⟩))
  have HH36 := HH35.pairF (E := eInt) (c1 := [.int .i64 (a0.2.1)]) (x := a0.2.1) (oI (by exact ⟨by omega, by omega⟩))
  have HH37 := HH36.pairF (E := eInt) (c1 := [.int .i64 (a0.1)]) (x := a0.1) (oI (by exact ⟨by omega, by omega⟩))
  obtain ⟨S23, HH38⟩ : ∃ S, Held M w (rO eMulti S [.int .i64 (a0.1), .int .i64 (a0.2.1), .int .i64 (a0.2.2.1), .slice Az0_3 (a0.2.2.2.length) cz0_3] (a0.1, a0.2.1, a0.2.2.1, (mk_SMultiRule a0.2.2.2 a1)) :: _) _ := ⟨_, HH37⟩
  have hF : (mkR_Multi a0 a1) = ((a1 + (ct_SMultiRule a0.2.2.2 : Int)), (a0.1, a0.2.1, a0.2.2.1, (mk_SMultiRule a0.2.2.2 a1))) := by
    rfl
  exact ⟨_, by first | (rw [hF] <;> rfl) | rfl | (rw [hF]; simp only [Ending.returned.injEq, Value.slice.injEq, true_and, and_true]; first | omega | (simp; done)) | (rw [hF]; simp; omega), by rw [hF]; exact HH38.sel [0] (by decide) rfl⟩

set_option maxRecDepth 100000 in
set_option maxHeartbeats 4000000 in
theorem held_Multi_e (es0 : List Value) (a0 : tMulti) (a1 : Int) (z : tMulti) (w : World) (h0 : eMulti.R w (Old w) es0 a0) (sz : a0 = mv_Multi z a1) (s0 : 0 ≤ a1) (s1 : a1 + (cv_Multi z : Int) ≤ 1000000000000) :
    Calls Try.prog 37 #[.agg es0.toArray, .int .i64 a1] w fun e w' => e = .returned (.int .i64 (a1 + (cv_Multi z : Int))) ∧ Below w.heap.size w w' := by
  have H0 := h0
  obtain ⟨Az0_3, cz0_3, rfl, gz0_0, gz0_1, gz0_2, gz0_3⟩ := shape_Multi h0
  have jz0_0 := gz0_0; unfold I64 at jz0_0
  have jz0_1 := gz0_1; unfold I64 at jz0_1
  have jz0_2 := gz0_2; unfold I64 at jz0_2
  have lz0_3 := gz0_3.len
  obtain ⟨za0, hza0⟩ : ∃ y, y = z := ⟨_, rfl⟩
  have hxa0 : a0 = mv_Multi za0 a1 := by rw [hza0]; exact sz
  have hc0 : cv_Multi z = ct_SMultiRule za0.2.2.2 := by rw [hza0]; rfl
  have HH1 := Held.start Nob w
  refine enter (n := 12) Try.func37 rfl rfl rfl fun a_2 HE3 => ?_
  refine wp_seq ?_
  refine rg ?_
  refine pl fun K_4 hK5 => ?_
  refine st_box (cs := [.int .i64 (a0.1), .int .i64 (a0.2.1), .int .i64 (a0.2.2.1), .slice Az0_3 (a0.2.2.2.length) cz0_3]) HE3 HH1 rfl rfl (wt0 rfl) rfl fun q21 a_6 w' HE7 HH8 => hK5 _ _ ?_
  refine pl_x HE7 HH8 (wt0 rfl) (x_assign rfl) rfl rfl fun a_9 HE10 => ?_
  refine wpList_nil ?_
  clear a_2 HE3 HH1 a_6 HE7 hK5 K_4
  refine nrm ?_
  refine wp_seq ?_
  refine rg ?_
  refine pl_x HE10 HH8 (wt0 rfl) (x_fieldAddr fa_55_3 rfl) rfl rfl fun a_11 HE12 => ?_
  refine pl_x HE12 HH8 (wt0 rfl) (x_load1 tv_53 rfl (c_blk 0 rfl rfl)) rfl rfl fun a_13 HE14 => ?_
  refine pl_x HE14 HH8 (wt0 rfl) (x_move rfl) rfl rfl fun a_15 HE16 => ?_
  refine pl fun K_17 hK18 => ?_
  refine st_call HE16 (wt0 rfl) rfl rfl rfl en_74 rfl rfl (held_SMultiRule_e _ _ a0.2.2.2 a1 za0.2.2.2 _ (HH8.old gz0_3) (by rw [hxa0]; rfl) (by omega) (by omega)) fun e w' hr => ?_
  obtain ⟨rfl, hbr22⟩ := hr
  have HH19 := HH8.on hbr22
  clear hbr22
  refine ⟨_, rfl, fun a_20 HE21 => hK18 _ _ ?_⟩
  refine pl_x HE21 HH19 (wt0 rfl) (x_assign rfl) rfl rfl fun a_22 HE23 => ?_
  refine wpList_nil ?_
  clear a_9 HE10 a_11 HE12 a_13 HE14 HH8 a_15 HE16 a_20 HE21 hK18 K_17
  refine nrm ?_
  refine wp_seq ?_
  refine wp_seq ?_
  refine rg ?_
  refine pl_x HE23 HH19 (wt0 rfl) (x_move rfl) rfl rfl fun a_24 HE25 => ?_
  refine pl_x HE25 HH19 (wt0 rfl) (x_lss rfl rfl) rfl rfl fun a_26 HE27 => ?_
  refine wpList_nil ?_
  clear a_22 HE23 a_24 HE25
  refine nrm ?_
  refine cnd_d HE27 rfl (fun hc23 => ?_) (fun hc23 => ?_)
  · refine wp_seq ?_
    refine rg ?_
    refine pl_x HE27 HH19 (wt0 rfl) (x_assign rfl) rfl rfl fun a_28 HE29 => ?_
    refine wpList_nil ?_
    clear a_26 HE27
    refine nrm ?_
    refine wp_ret ?_
    refine (thn_ret ?_)
    refine ret1 HE29 rfl (rv_tmp rfl) ?_
    have hF : (a1 + (cv_Multi z : Int)) = -1 := by
      first | (exfalso; omega) | (rw [hc0])
    exact ⟨by first | (rw [hF] <;> rfl) | rfl | (rw [hF]; simp only [Ending.returned.injEq, Value.slice.injEq, true_and, and_true]; first | omega | (simp; done)) | (rw [hF]; simp; omega), HH19.below⟩
  · refine wp_skip ?_
    refine nrm ?_
    refine wp_seq ?_
    refine rg ?_
    refine pl_x HE27 HH19 (wt0 rfl) (x_move rfl) rfl rfl fun a_30 HE31 => ?_
    refine pl_x HE31 HH19 (wt0 rfl) (x_assign rfl) rfl rfl fun a_32 HE33 => ?_
    refine wpList_nil ?_
    clear a_26 HE27 a_30 HE31
    refine nrm ?_
    refine wp_ret ?_
    refine ret1 HE33 rfl (rv_tmp rfl) ?_
    have hF : (a1 + (cv_Multi z : Int)) = (a1 + (ct_SMultiRule za0.2.2.2 : Int)) := by
      first | (exfalso; omega) | (rw [hc0])
    exact ⟨by first | (rw [hF] <;> rfl) | rfl | (rw [hF]; simp only [Ending.returned.injEq, Value.slice.injEq, true_and, and_true]; first | omega | (simp; done)) | (rw [hF]; simp; omega), HH19.below⟩

theorem elem_Int64 : Elem Try.prog eInt 37 2 8 := by
  obtain ⟨i0, hi0, hz0, hz1, hz2⟩ := info_parts info_impl_Int64
  exact ⟨Try.underlying37, i0, _, hi0, hz0, hz1, hz2, rfl⟩

set_option maxHeartbeats 400000 in
theorem spec_l00Own (A : Option Addr) (c : Nat) (xs : List Int) (w : World) (h : Sl eInt w (Old w) A c xs) (hsm : xs.length ≤ 1000000000000) :
    Calls Try.prog 42 #[.slice A xs.length c] w fun e w' => ∃ A' c', e = .returned (.slice A' xs.length c') ∧ So eInt w' (Fr w w') A' c' xs ∧ Below w.heap.size w w' := by
  have H := Lib.hid (h.on (below_alloc (Below.refl _ _) (.cells #[] 2))); clear h
  go_enter Try.func42, Try.ntmps42
  go_wp2_with (at_builtin; refine wpList_append_row flat_int elem_Int64 rfl _ _ rfl (base := w.heap.size) rfl (Row.empty (Nat.le_refl _)) rfl H.out (by simp only [List.length_nil]; unfold maxLen; omega) (by simp only [List.length_nil]; omega) (by simp) ?_)
  intro v' w1 hrow hgrow hat
  try rw [List.nil_append] at hrow
  obtain ⟨A', c', rfl, hso⟩ := hrow.so
  have HO := Lib.hid hso
  have HL : Hid (Below w.heap.size w w1) := ((Below.refl _ w).alloc (Nat.le_refl _) _).grown hgrow (by simp) (by intro k hk; simp [Value.ownBlock] at hk; omega)
  clear hrow hgrow hat hso
  go_wp2
  go_ret
  exact ⟨A', c', rfl, HO.out, HL.out⟩

set_option maxHeartbeats 400000 in
theorem Clone_Int64 (A : Option Addr) (c : Nat) (xs : List Int) (w : World) (h : Sl eInt w (Old w) A c xs) (hsm : xs.length ≤ 1000000000000) :
    Calls Try.prog 72 #[.slice A xs.length c] w fun e w' => ∃ A' c', e = .returned (.slice A' xs.length c') ∧ So eInt w' (Fr w w') A' c' xs ∧ Below w.heap.size w w' := by
  have q22 : ∀ (w : World) (a : Option Addr) (n c n' c' : Nat), (binOp .eql 37 (.slice a n c) (.slice none n' c')).run Try.prog w = .ok (.bool a.isNone) w := fun w a n c n' c' => Lib.run_eql_slice_nil w _ _ a n c n' c' Try.underlying37
  cases A with
  | none =>
    have hx : xs = [] := Classical.byContradiction fun hn => by
      obtain ⟨b, off, hA, _⟩ := h.2.2 hn
      cases hA
    subst hx
    clear h
    go_enter Try.func72, Try.ntmps72
    go_wp2
    go_ret
    exact ⟨none, 0, rfl, So.nil (Nat.zero_le _), Below.refl _ _⟩
  | some ad =>
    have H := Lib.hid (h.on (below_alloc (Below.refl _ _) (.cells #[] 2))); clear h
    go_enter Try.func72, Try.ntmps72
    go_wp2_with (at_builtin; refine wpList_append_row flat_int elem_Int64 rfl _ _ rfl (base := w.heap.size) rfl (Row.empty (Nat.le_refl _)) rfl H.out (by simp only [List.length_nil]; unfold maxLen; omega) (by simp only [List.length_nil]; omega) (by simp) ?_)
    intro v' w1 hrow hgrow hat
    try rw [List.nil_append] at hrow
    obtain ⟨A', c', rfl, hso⟩ := hrow.so
    have HO := Lib.hid hso
    have HL : Hid (Below w.heap.size w w1) := ((Below.refl _ w).alloc (Nat.le_refl _) _).grown hgrow (by simp) (by intro k hk; simp [Value.ownBlock] at hk; omega)
    clear hrow hgrow hat hso
    go_wp2
    go_ret
    exact ⟨A', c', rfl, HO.out, HL.out⟩

def outB (lo hi n : Int) : Bool := !withinB n lo hi

def allW (xs : List Int) (lo hi : Int) : Bool := !xs.any (outB lo hi)

theorem impl_allWithin (A : Option Addr) (c : Nat) (xs : List Int) (lo hi : Int) (w : World) (h : Sl eInt w (Old w) A c xs) :
    Calls Try.prog 117 #[.slice A xs.length c, .int .i64 lo, .int .i64 hi] w fun e w' => e = .returned (.bool (allW xs lo hi)) ∧ w = w' := by
  have hlen := h.len
  have H := Lib.hid h; clear h
  unfold allW
  go_enter Try.func117, Try.ntmps117
  go_wp2
  go_loop [8, 11] (fun _ i => ∃ k : Nat, k ≤ xs.length ∧ i = .int .i64 k ∧ Hid ((xs.take k).any (outB lo hi) = false)) (fun _ i => xs.length - (intOf i).toNat)
  case atStart => exact ⟨0, Nat.zero_le _, rfl, rfl⟩
  case round =>
    obtain ⟨k, hk, rfl, HN⟩ := hrel
    by_cases hlt : k < xs.length
    · have hltz : (k : Int) < (xs.length : Int) := by omega
      obtain ⟨b, off, es, rfl, hb, ⟨rfl, _⟩, hc⟩ := H.out.at1 rfl hlt
      have d0 : w.cell? ⟨b, off + k, none⟩ = some (.int .i64 xs[k]) := hc _ rfl
      clear hc
      have HT : Hid (outB lo hi xs[k] = true → xs.any (outB lo hi) = true) := fun e => any_hit hlt e
      have HS : Hid (outB lo hi xs[k] = false → (xs.take (k + 1)).any (outB lo hi) = false) := fun e => any_step hlt HN.out e
      generalize xs[k] = y at d0 HT HS
      cases q1 : withinB y lo hi
      · go_wp2_with (go_at_call 65; refine (impl_within _ _ _ _).mono ?_; rintro e w' ⟨rfl, rfl⟩; rw [q1])
        go_ret
        exact ⟨by rw [HT.out (by unfold outB; rw [q1]; rfl)]; rfl, rfl⟩
      · go_wp2_with (go_at_call 65; refine (impl_within _ _ _ _).mono ?_; rintro e w' ⟨rfl, rfl⟩; rw [q1])
        go_round
        case rel => exact ⟨k + 1, by omega, by go_num, HS.out (by unfold outB; rw [q1]; rfl)⟩
        case measure => simp [intOf]; omega
    · have hltz : ¬ (k : Int) < (xs.length : Int) := by omega
      obtain rfl : k = xs.length := by omega
      go_wp2
      go_ret
      have hn := HN.out
      rw [List.take_length] at hn
      exact ⟨ret_bool (by rw [hn]; rfl), rfl⟩

set_option maxRecDepth 100000 in
set_option maxHeartbeats 1000000 in
theorem spec_l00Same (A A' : Option Addr) (c c' : Nat) (xs ys : List Int) (w : World) (h : Sl eInt w (Old w) A c xs) (h' : Sl eInt w (Old w) A' c' ys) :
    Calls Try.prog 115 #[.slice A xs.length c, .slice A' ys.length c'] w fun e w' => e = .returned (.bool (eq_L xs ys)) ∧ Dr w w' := by
  have hlen := h.len
  have hlen' := h'.len
  unfold eq_L
  by_cases hne : xs.length = ys.length
  · have hne' : ((xs.length : Int) != (ys.length : Int)) = false := by simp [hne]
    have HE := Lib.hid hne; clear hne
    have H := Lib.hid h; clear h
    have H' := Lib.hid h'; clear h'
    go_enter Try.func115, Try.ntmps115
    go_wp2
    clear hne'
    go_loopw [5] (fun s5 wr => ∃ k : Nat, k ≤ xs.length ∧ s5 = .int .i64 k ∧ Hid (Dr w wr) ∧ Hid (∀ j (h1 : j < xs.length) (h2 : j < ys.length), j < k → eq_i xs[j] ys[j] = true)) (fun s5 _ => xs.length - (intOf s5).toNat)
    case atStart => exact ⟨0, Nat.zero_le _, rfl, Dr.refl _, fun j _ _ h => absurd h (Nat.not_lt_zero _)⟩
    case round =>
      obtain ⟨k, hk, rfl, HL, HN⟩ := hrel
      by_cases hlt : k < xs.length
      · have hltz : (k : Int) < (xs.length : Int) := by omega
        have hlt' : k < ys.length := by have := HE.out; omega
        have hltz' : (k : Int) < (ys.length : Int) := by omega
        obtain ⟨bp, offp, esp, rfl, hbp, ⟨rfl, _⟩, hc⟩ := H.out.at1 rfl hlt
        have dp0 : wr.cell? ⟨bp, offp + k, none⟩ = some (.int .i64 xs[k]) := (HL.out.cell _).trans (hc _ rfl)
        clear hc
        obtain ⟨bq, offq, esq, rfl, hbq, ⟨rfl, _⟩, hc⟩ := H'.out.at1 rfl hlt'
        have dq0 : wr.cell? ⟨bq, offq + k, none⟩ = some (.int .i64 ys[k]) := (HL.out.cell _).trans (hc _ rfl)
        clear hc
        have HQ0 : Hid (eq_i xs[k] ys[k] = false → eqL eq_i xs ys = false) := eqL_get xs ys k hlt hlt'
        have HQ1 : Hid (eq_i xs[k] ys[k] = true → ∀ j (h1 : j < xs.length) (h2 : j < ys.length), j < k + 1 → eq_i xs[j] ys[j] = true) := fun e j h1 h2 hj => by
          by_cases ej : j = k
          · subst ej; exact e
          · exact HN.out j h1 h2 (by omega)
        generalize xs[k] = x at dp0 HQ0 HQ1
        generalize ys[k] = y at dq0 HQ0 HQ1
        cases hq : eq_i x y
        · have hq' : (x != y) = true := by simp [eq_i] at hq; simp [hq]
          go_wp2_with fail
          go_quiet (fail)
          go_wp2
          go_ret
          exact ⟨by rw [HQ0.out hq]; rfl, HL.out.drewN _⟩
        · have hq' : (x != y) = false := by simp [eq_i] at hq; simp [hq]
          go_wp2_with fail
          go_quiet (fail)
          go_wp2
          go_roundw
          case rel => exact ⟨k + 1, by omega, by go_num, HL.out.drewN _, HQ1.out hq⟩
          case measure => simp [intOf]; omega
      · have hltz : ¬ (k : Int) < (xs.length : Int) := by omega
        obtain rfl : k = xs.length := by omega
        go_wp2
        go_ret
        exact ⟨by rw [eqL_all xs ys HE.out fun j h1 h2 => HN.out j h1 h2 h1]; rfl, HL.out⟩
  · have hne' : ((xs.length : Int) != (ys.length : Int)) = true := by simp; omega
    rw [eqL_len xs ys hne]
    clear h h' hne
    go_enter Try.func115, Try.ntmps115
    go_wp2
    go_ret
    exact ⟨rfl, Dr.refl _⟩

def cellsOf (t : tTape) : Int := (t.1.length : Int) + (t.2.length : Int)

theorem left_ok {l : Int} {n : Nat} (h : ¬ left l n < 0) : left l n = l - (n : Int) ∧ (n : Int) ≤ l := by
  unfold left at *; split at h <;> simp_all <;> omega

/-- The value of limbs. -/
def val : List Int → Int
  | [] => 0
  | x :: xs => x + 1000000 * val xs

def limbs (xs : List Int) : Prop := ∀ x ∈ xs, 0 ≤ x ∧ x ≤ 999999

/-- The limbs of a number. -/
def digs (n : Nat) : List Int := if h : n = 0 then [] else ((n % 1000000 : Nat) : Int) :: digs (n / 1000000)
  termination_by n
  decreasing_by omega

/-- The product of limbs. -/
def mulN (a b : List Int) : List Int := digs (val a * val b).toNat

def noNaN (_ : Int) : Bool := false

def cmpI (x y : Int) : Int := if x < y then -1 else if y < x then 1 else 0

def cmpL : List Int → List Int → Int
  | [], [] => 0
  | [], _ :: _ => -1
  | _ :: _, [] => 1
  | x :: xs, y :: ys => if x < y then -1 else if y < x then 1 else cmpL xs ys

theorem cmpL_step {a b : List Int} {k : Nat} (ha : k < a.length) (hb : k < b.length) : cmpL (a.drop k) (b.drop k) = if a[k] < b[k] then -1 else if b[k] < a[k] then 1 else cmpL (a.drop (k + 1)) (b.drop (k + 1)) := by
  rw [List.drop_eq_getElem_cons ha, List.drop_eq_getElem_cons hb, cmpL]

theorem cmpL_end (a b : List Int) (k : Nat) (h : a.length ≤ k ∨ b.length ≤ k) (ha : k ≤ a.length) (hb : k ≤ b.length) : cmpL (a.drop k) (b.drop k) = if a.length < b.length then -1 else if b.length < a.length then 1 else 0 := by
  by_cases h1 : k < a.length
  · rw [show b.drop k = [] from List.drop_of_length_le (by omega), List.drop_eq_getElem_cons h1, cmpL, if_neg (by omega), if_pos (by omega)]
  · by_cases h2 : k < b.length
    · rw [show a.drop k = [] from List.drop_of_length_le (by omega), List.drop_eq_getElem_cons h2, cmpL, if_pos (by omega)]
    · rw [List.drop_of_length_le (by omega), List.drop_of_length_le (by omega), cmpL, if_neg (by omega), if_neg (by omega)]

theorem rg_step {p : Nat → Bool} {k : Nat} (h : (List.range k).any p = false) (hk : p k = false) : (List.range (k + 1)).any p = false := by
  rw [List.range_succ, List.any_append, h]; simp [hk]

theorem rg_hit {p : Nat → Bool} {k n : Nat} (hk : k < n) (h : p k = true) : (List.range n).any p = true :=
  List.any_eq_true.2 ⟨k, List.mem_range.2 hk, h⟩

def validMR (m : tMulti) (r : tMultiRule) : Bool :=
  withinB r.1 0 (m.2.2.1 - 1) && withinB r.2.2.2.2 0 (m.2.2.1 - 1) && ((r.2.1.length : Int) == m.1) && ((r.2.2.1.length : Int) == m.1) && ((r.2.2.2.1.length : Int) == m.1) && allW r.2.1 0 (m.2.1 - 1) && allW r.2.2.1 0 (m.2.1 - 1) && allW r.2.2.2.1 (-1) 1

def cmpMR (a b : tMultiRule) : Int := if a.1 = b.1 then cmpL a.2.1 b.2.1 else if a.1 < b.1 then -1 else 1

def beforeMR (a b : tMultiRule) : Bool := decide (cmpMR a b < 0)

def badMR (m : tMulti) (k : Nat) : Bool := !validMR m (m.2.2.2[k]?.getD default) || (decide (0 < k) && !beforeMR (m.2.2.2[k - 1]?.getD default) (m.2.2.2[k]?.getD default))

def validMulti (m : tMulti) : Bool :=
  withinB m.1 2 3 && withinB m.2.1 2 3 && withinB m.2.2.1 1 16 && decide ((m.2.2.2.length : Int) ≤ 60) && !(List.range m.2.2.2.length).any (badMR m)

theorem outB_eq (lo hi x : Int) : outB lo hi x = !withinB x lo hi := by
  unfold outB withinB; grind

def rowB (xs : List Int) (t lo hi : Int) : Bool := ((xs.length : Int) == t) && allW xs lo hi

set_option maxRecDepth 100000 in
set_option maxHeartbeats 4000000 in
theorem cmp_isNaN (a0 : Int) (w : World)  :
    Calls Try.prog 113 #[.int .i64 a0] w fun e w' => e = .returned (.bool (noNaN a0)) ∧ w = w' := by
  have HH1 := Held.start Nob w
  refine enter (n := 6) Try.func113 rfl rfl rfl fun a_2 HE3 => ?_
  refine wp_seq ?_
  refine rg ?_
  refine pl_x HE3 HH1 (wt0 rfl) (x_assign rfl) rfl rfl fun a_4 HE5 => ?_
  refine wpList_nil ?_
  clear a_2 HE3
  refine nrm ?_
  refine wp_seq ?_
  refine rg ?_
  refine pl_x HE5 HH1 (wt0 rfl) (x_move rfl) rfl rfl fun a_6 HE7 => ?_
  refine pl_x HE7 HH1 (wt0 rfl) (x_move rfl) rfl rfl fun a_8 HE9 => ?_
  refine pl_x HE9 HH1 (wt0 rfl) (x_neq rfl rfl) rfl rfl fun a_10 HE11 => ?_
  refine pl_x HE11 HH1 (wt0 rfl) (x_assign rfl) rfl rfl fun a_12 HE13 => ?_
  refine wpList_nil ?_
  clear a_4 HE5 a_6 HE7 a_8 HE9 a_10 HE11
  refine nrm ?_
  refine wp_ret ?_
  refine ret1 HE13 rfl (rv_tmp rfl) ?_
  have hF : (noNaN a0) = (a0 != a0) := by
    first | rfl | (simp [noNaN]; done) | (simp [noNaN]; omega) | grind [noNaN]
  exact ⟨by first | (rw [hF] <;> rfl) | rfl | (rw [hF]; simp only [Ending.returned.injEq, Value.slice.injEq, true_and, and_true]; first | omega | (simp; done)) | (rw [hF]; simp; omega), rfl⟩

set_option maxRecDepth 100000 in
set_option maxHeartbeats 4000000 in
theorem cmp_Compare (a0 : Int) (a1 : Int) (w : World)  :
    Calls Try.prog 122 #[.int .i64 a0, .int .i64 a1] w fun e w' => e = .returned (.int .i64 (cmpI a0 a1)) ∧ w = w' := by
  have HH1 := Held.start Nob w
  refine enter (n := 20) Try.func122 rfl rfl rfl fun a_2 HE3 => ?_
  refine wp_seq ?_
  refine rg ?_
  refine pl_x HE3 HH1 (wt0 rfl) (x_assign rfl) rfl rfl fun a_4 HE5 => ?_
  refine wpList_nil ?_
  clear a_2 HE3
  refine nrm ?_
  refine wp_seq ?_
  refine rg ?_
  refine pl_x HE5 HH1 (wt0 rfl) (x_move rfl) rfl rfl fun a_6 HE7 => ?_
  refine pl fun K_8 hK9 => ?_
  refine st_call HE7 (wt0 rfl) rfl rfl rfl en_113 rfl rfl (cmp_isNaN a0 _ ) fun e w' hr => ?_
  obtain ⟨rfl, rfl⟩ := hr
  refine ⟨_, rfl, fun a_10 HE11 => hK9 _ _ ?_⟩
  refine pl_x HE11 HH1 (wt0 rfl) (x_assign rfl) rfl rfl fun a_12 HE13 => ?_
  refine wpList_nil ?_
  clear a_4 HE5 a_6 HE7 a_10 HE11 hK9 K_8
  refine nrm ?_
  refine wp_seq ?_
  refine rg ?_
  refine pl_x HE13 HH1 (wt0 rfl) (x_move rfl) rfl rfl fun a_14 HE15 => ?_
  refine pl fun K_16 hK17 => ?_
  refine st_call HE15 (wt0 rfl) rfl rfl rfl en_113 rfl rfl (cmp_isNaN a1 _ ) fun e w' hr => ?_
  obtain ⟨rfl, rfl⟩ := hr
  refine ⟨_, rfl, fun a_18 HE19 => hK17 _ _ ?_⟩
  refine pl_x HE19 HH1 (wt0 rfl) (x_assign rfl) rfl rfl fun a_20 HE21 => ?_
  refine wpList_nil ?_
  clear a_12 HE13 a_14 HE15 a_18 HE19 hK17 K_16
  refine nrm ?_
  refine wp_seq ?_
  refine wp_seq ?_
  refine rg ?_
  refine pl_x HE21 HH1 (wt0 rfl) (x_move rfl) rfl rfl fun a_22 HE23 => ?_
  refine wpList_nil ?_
  clear a_20 HE21
  refine nrm ?_
  refine cndF HE23 rfl rfl ?_
  refine wp_skip ?_
  refine nrm ?_
  refine wp_seq ?_
  refine wp_seq ?_
  refine rg ?_
  refine pl_x HE23 HH1 (wt0 rfl) (x_move rfl) rfl rfl fun a_24 HE25 => ?_
  refine wpList_nil ?_
  clear a_22 HE23
  refine nrm ?_
  refine cndF HE25 rfl rfl ?_
  refine wp_skip ?_
  refine nrm ?_
  refine wp_seq ?_
  refine wp_seq ?_
  refine rg ?_
  refine pl_x HE25 HH1 (wt0 rfl) (x_move rfl) rfl rfl fun a_26 HE27 => ?_
  refine pl_x HE27 HH1 (wt0 rfl) (x_move rfl) rfl rfl fun a_28 HE29 => ?_
  refine pl_x HE29 HH1 (wt0 rfl) (x_lss rfl rfl) rfl rfl fun a_30 HE31 => ?_
  refine wpList_nil ?_
  clear a_24 HE25 a_26 HE27 a_28 HE29
  refine nrm ?_
  refine cnd_d HE31 rfl (fun hc23 => ?_) (fun hc23 => ?_)
  · refine wp_seq ?_
    refine rg ?_
    refine pl_x HE31 HH1 (wt0 rfl) (x_assign rfl) rfl rfl fun a_32 HE33 => ?_
    refine wpList_nil ?_
    clear a_30 HE31
    refine nrm ?_
    refine wp_ret ?_
    refine (thn_ret ?_)
    refine ret1 HE33 rfl (rv_tmp rfl) ?_
    have hF : (cmpI a0 a1) = -1 := by
      first | (unfold cmpI; rw [if_pos (by omega)]; done) | (unfold cmpI; rw [if_neg (by omega), if_pos (by omega)]; done) | (unfold cmpI; rw [if_neg (by omega), if_neg (by omega)])
    exact ⟨by first | (rw [hF] <;> rfl) | rfl | (rw [hF]; simp only [Ending.returned.injEq, Value.slice.injEq, true_and, and_true]; first | omega | (simp; done)) | (rw [hF]; simp; omega), rfl⟩
  · refine wp_skip ?_
    refine nrm ?_
    refine wp_seq ?_
    refine wp_seq ?_
    refine rg ?_
    refine pl_x HE31 HH1 (wt0 rfl) (x_move rfl) rfl rfl fun a_34 HE35 => ?_
    refine pl_x HE35 HH1 (wt0 rfl) (x_move rfl) rfl rfl fun a_36 HE37 => ?_
    refine pl_x HE37 HH1 (wt0 rfl) (x_gtr rfl rfl) rfl rfl fun a_38 HE39 => ?_
    refine wpList_nil ?_
    clear a_30 HE31 a_34 HE35 a_36 HE37
    refine nrm ?_
    refine cnd_d HE39 rfl (fun hc24 => ?_) (fun hc24 => ?_)
    · refine wp_seq ?_
      refine rg ?_
      refine pl_x HE39 HH1 (wt0 rfl) (x_assign rfl) rfl rfl fun a_40 HE41 => ?_
      refine wpList_nil ?_
      clear a_38 HE39
      refine nrm ?_
      refine wp_ret ?_
      refine (thn_ret ?_)
      refine ret1 HE41 rfl (rv_tmp rfl) ?_
      have hF : (cmpI a0 a1) = 1 := by
        first | (unfold cmpI; rw [if_pos (by omega)]; done) | (unfold cmpI; rw [if_neg (by omega), if_pos (by omega)]; done) | (unfold cmpI; rw [if_neg (by omega), if_neg (by omega)])
      exact ⟨by first | (rw [hF] <;> rfl) | rfl | (rw [hF]; simp only [Ending.returned.injEq, Value.slice.injEq, true_and, and_true]; first | omega | (simp; done)) | (rw [hF]; simp; omega), rfl⟩
    · refine wp_skip ?_
      refine nrm ?_
      refine wp_seq ?_
      refine rg ?_
      refine pl_x HE39 HH1 (wt0 rfl) (x_assign rfl) rfl rfl fun a_42 HE43 => ?_
      refine wpList_nil ?_
      clear a_38 HE39
      refine nrm ?_
      refine wp_ret ?_
      refine ret1 HE43 rfl (rv_tmp rfl) ?_
      have hF : (cmpI a0 a1) = 0 := by
        first | (unfold cmpI; rw [if_pos (by omega)]; done) | (unfold cmpI; rw [if_neg (by omega), if_pos (by omega)]; done) | (unfold cmpI; rw [if_neg (by omega), if_neg (by omega)])
      exact ⟨by first | (rw [hF] <;> rfl) | rfl | (rw [hF]; simp only [Ending.returned.injEq, Value.slice.injEq, true_and, and_true]; first | omega | (simp; done)) | (rw [hF]; simp; omega), rfl⟩

set_option maxRecDepth 100000 in
set_option maxHeartbeats 4000000 in
theorem slices_Compare (A0 : Option Addr) (c0 : Nat) (a0 : (List Int)) (A1 : Option Addr) (c1 : Nat) (a1 : (List Int)) (w : World) (h0 : Sl eInt w (Old w) A0 c0 a0) (h1 : Sl eInt w (Old w) A1 c1 a1) :
    Calls Try.prog 118 #[.slice A0 a0.length c0, .slice A1 a1.length c1] w fun e w' => e = .returned (.int .i64 (cmpL a0 a1)) ∧ Below w.heap.size w w' := by
  have l0 := h0.len
  have l1 := h1.len
  have HH1 := Held.start Nob w
  refine enter (n := 36) Try.func118 rfl rfl rfl fun a_2 HE3 => ?_
  refine wp_seq ?_
  refine rg ?_
  refine pl_x HE3 HH1 (wt0 rfl) (x_assign rfl) rfl rfl fun a_4 HE5 => ?_
  refine wpList_nil ?_
  clear a_2 HE3
  refine nrm ?_
  refine wp_seq ?_
  refine wp_seq ?_
  refine rg ?_
  refine pl_x HE5 HH1 (wt0 rfl) (x_move rfl) rfl rfl fun a_6 HE7 => ?_
  refine pl_x HE7 HH1 (wt0 rfl) (x_len Try.underlying37 rfl) rfl rfl fun a_8 HE9 => ?_
  refine pl_x HE9 HH1 (wt0 rfl) (x_move rfl) rfl rfl fun a_10 HE11 => ?_
  refine wpList_nil ?_
  clear a_4 HE5 a_6 HE7 a_8 HE9
  refine nrm ?_
  refine wp_block ?_
  refine lp (fun m a w' => ∃ (k : Nat), m = a0.length - k ∧ Env 36 [(11, .int .i64 (k : Int)), (0, .slice A0 (a0.length) c0), (1, .slice A1 (a1.length) c1), (9, .slice A0 (a0.length) c0), (10, .int .i64 ((a0.length : Int)))] a ∧ Held Nob w [] w' ∧ (k ≤ a0.length) ∧ (k ≤ a1.length) ∧ (cmpL a0 a1 = cmpL (a0.drop k) (a1.drop k))) (a0.length - (0)) ?_ ?_
  · exact ⟨0, rfl, HE11.sub ⟨(lkI rfl (by first | rfl | omega | (simp []; done))), rfl, rfl, rfl, rfl, trivial⟩, (HH1.sel [] (by decide) rfl), (by first | omega | assumption | (simp; done) | simp_all), (by first | omega | assumption | (simp; done) | simp_all), (by rfl)⟩
  · rintro m a_12 w' ⟨k, rfl, HE13, HH14, p21_0, p21_1, p21_2⟩
    refine wp_seq ?_
    refine rg ?_
    refine pl_x HE13 HH14 (wt0 rfl) (x_lss rfl rfl) rfl rfl fun a_15 HE16 => ?_
    refine wpList_nil ?_
    clear a_10 HE11 HH1 a_12 HE13
    refine nrm ?_
    refine wp_seq ?_
    refine cnd_d HE16 rfl (fun hc22 => ?_) (fun hc22 => ?_)
    · refine wp_skip ?_
      refine nrm ?_
      refine wp_seq ?_
      refine wp_block ?_
      refine wp_seq ?_
      refine rg ?_
      refine pl_x HE16 HH14 (wt0 rfl) (x_move rfl) rfl rfl fun a_17 HE18 => ?_
      have ke23 : k < a0.length := by omega
      obtain ⟨be23, fe23, ese23, Ae23, Re23, De23⟩ := el_old h0 ke23
      obtain ⟨e23, xe23⟩ : ∃ x_, x_ = a0[k] := ⟨_, rfl⟩
      rw [← xe23] at Re23
      have Qe23 := Re23
      obtain ⟨rfl, ie23⟩ := Re23
      have je23 := ie23; unfold I64 at je23
      refine pl_x HE18 HH14 (wt0 rfl) (x_indexAddr ts_37 rfl rfl Ae23 rfl ke23) rfl rfl fun a_19 HE20 => ?_
      refine pl_x HE20 HH14 (wt0 rfl) (x_load1 tv_2 rfl (c_old (De23 0 _ rfl))) rfl rfl fun a_21 HE22 => ?_
      refine pl_x HE22 HH14 (wt0 rfl) (x_assign rfl) rfl rfl fun a_23 HE24 => ?_
      refine pl_x HE24 HH14 (wt0 rfl) (x_assign rfl) rfl rfl fun a_25 HE26 => ?_
      refine wpList_nil ?_
      clear a_15 HE16 a_17 HE18 a_19 HE20 a_21 HE22 a_23 HE24
      refine nrm ?_
      refine wp_seq ?_
      refine wp_seq ?_
      refine rg ?_
      refine pl_x HE26 HH14 (wt0 rfl) (x_move rfl) rfl rfl fun a_27 HE28 => ?_
      refine pl_x HE28 HH14 (wt0 rfl) (x_move rfl) rfl rfl fun a_29 HE30 => ?_
      refine pl_x HE30 HH14 (wt0 rfl) (x_len Try.underlying37 rfl) rfl rfl fun a_31 HE32 => ?_
      refine pl_x HE32 HH14 (wt0 rfl) (x_geq rfl rfl) rfl rfl fun a_33 HE34 => ?_
      refine wpList_nil ?_
      clear a_25 HE26 a_27 HE28 a_29 HE30 a_31 HE32
      refine nrm ?_
      refine cnd_d HE34 rfl (fun hc24 => ?_) (fun hc24 => ?_)
      · refine wp_seq ?_
        refine rg ?_
        refine pl_x HE34 HH14 (wt0 rfl) (x_assign rfl) rfl rfl fun a_35 HE36 => ?_
        refine wpList_nil ?_
        clear a_33 HE34
        refine nrm ?_
        refine wp_ret ?_
        refine (thn_ret (blk_ret (thn_ret (thn_ret (blk_ret (thn_ret ?_))))))
        refine ret1 HE36 rfl (rv_tmp rfl) ?_
        have hF : (cmpL a0 a1) = 1 := by
          rw [p21_2]; first | (rw [cmpL_end a0 a1 k (by omega) (by omega) (by omega)]; grind) | (rw [cmpL_step (by omega) (by omega)]; grind [cmpI])
        exact ⟨by first | (rw [hF] <;> rfl) | rfl | (rw [hF]; simp only [Ending.returned.injEq, Value.slice.injEq, true_and, and_true]; first | omega | (simp; done)) | (rw [hF]; simp; omega), HH14.below⟩
      · refine wp_skip ?_
        refine nrm ?_
        refine wp_seq ?_
        refine rg ?_
        refine pl_x HE34 HH14 (wt0 rfl) (x_move rfl) rfl rfl fun a_37 HE38 => ?_
        refine pl_x HE38 HH14 (wt0 rfl) (x_move rfl) rfl rfl fun a_39 HE40 => ?_
        have ke25 : k < a1.length := by omega
        obtain ⟨be25, fe25, ese25, Ae25, Re25, De25⟩ := el_old h1 ke25
        obtain ⟨e25, xe25⟩ : ∃ x_, x_ = a1[k] := ⟨_, rfl⟩
        rw [← xe25] at Re25
        have Qe25 := Re25
        obtain ⟨rfl, ie25⟩ := Re25
        have je25 := ie25; unfold I64 at je25
        refine pl_x HE40 HH14 (wt0 rfl) (x_indexAddr ts_37 rfl rfl Ae25 rfl ke25) rfl rfl fun a_41 HE42 => ?_
        refine pl_x HE42 HH14 (wt0 rfl) (x_load1 tv_2 rfl (c_old (De25 0 _ rfl))) rfl rfl fun a_43 HE44 => ?_
        refine pl_x HE44 HH14 (wt0 rfl) (x_assign rfl) rfl rfl fun a_45 HE46 => ?_
        refine wpList_nil ?_
        clear a_33 HE34 a_37 HE38 a_39 HE40 a_41 HE42 a_43 HE44
        refine nrm ?_
        refine wp_seq ?_
        refine rg ?_
        refine pl_x HE46 HH14 (wt0 rfl) (x_move rfl) rfl rfl fun a_47 HE48 => ?_
        refine pl_x HE48 HH14 (wt0 rfl) (x_move rfl) rfl rfl fun a_49 HE50 => ?_
        refine pl fun K_51 hK52 => ?_
        refine st_call HE50 (wt0 rfl) rfl rfl rfl en_122 rfl rfl (cmp_Compare e23 e25 _ ) fun e w' hr => ?_
        obtain ⟨rfl, rfl⟩ := hr
        refine ⟨_, rfl, fun a_53 HE54 => hK52 _ _ ?_⟩
        refine pl_x HE54 HH14 (wt0 rfl) (x_assign rfl) rfl rfl fun a_55 HE56 => ?_
        refine wpList_nil ?_
        clear a_45 HE46 a_47 HE48 a_49 HE50 a_53 HE54 hK52 K_51
        refine nrm ?_
        refine wp_seq ?_
        refine rg ?_
        refine pl_x HE56 HH14 (wt0 rfl) (x_move rfl) rfl rfl fun a_57 HE58 => ?_
        refine pl_x HE58 HH14 (wt0 rfl) (x_neq rfl rfl) rfl rfl fun a_59 HE60 => ?_
        refine wpList_nil ?_
        clear a_55 HE56 a_57 HE58
        refine nrm ?_
        refine cnd_ne HE60 rfl (fun hc27 => ?_) (fun hc27 => ?_)
        · refine wp_seq ?_
          refine rg ?_
          refine pl_x HE60 HH14 (wt0 rfl) (x_move rfl) rfl rfl fun a_61 HE62 => ?_
          refine pl_x HE62 HH14 (wt0 rfl) (x_assign rfl) rfl rfl fun a_63 HE64 => ?_
          refine wpList_nil ?_
          clear a_59 HE60 a_61 HE62
          refine nrm ?_
          refine wp_ret ?_
          refine (blk_ret (thn_ret (thn_ret (blk_ret (thn_ret ?_)))))
          refine ret1 HE64 rfl (rv_tmp rfl) ?_
          have hF : (cmpL a0 a1) = (cmpI e23 e25) := by
            rw [p21_2]; first | (rw [cmpL_end a0 a1 k (by omega) (by omega) (by omega)]; grind) | (rw [cmpL_step (by omega) (by omega)]; grind [cmpI])
          exact ⟨by first | (rw [hF] <;> rfl) | rfl | (rw [hF]; simp only [Ending.returned.injEq, Value.slice.injEq, true_and, and_true]; first | omega | (simp; done)) | (rw [hF]; simp; omega), HH14.below⟩
        · refine wp_skip ?_
          refine blk_n ?_
          refine nrm ?_
          refine rg ?_
          refine pl_x HE60 HH14 (wt0 rfl) (x_add rfl rfl (by exact ⟨by omega, by omega⟩)) rfl rfl fun a_65 HE66 => ?_
          refine pl_x HE66 HH14 (wt0 rfl) (x_move rfl) rfl rfl fun a_67 HE68 => ?_
          refine wpList_nil ?_
          clear a_59 HE60 a_65 HE66
          exact nrm ⟨a0.length - (k + 1), (by omega), k + 1, rfl, HE68.sub ⟨(lkI rfl (by first | rfl | omega | (simp [p21_0, p21_1, p21_2, hc22, xe23, hc24, xe25, hc27]; done))), rfl, rfl, rfl, rfl, trivial⟩, (HH14.sel [] (by decide) rfl), (by first | omega | assumption | (simp; done) | simp_all), (by first | omega | assumption | (simp; done) | simp_all), (by rw [p21_2, cmpL_step (by omega) (by omega)]; grind [cmpI])⟩
    · refine wp_exit ?_
      refine (thn_exit (thn_exit (blk_hit ?_)))
      refine nrm ?_
      refine wp_seq ?_
      refine wp_seq ?_
      refine rg ?_
      refine pl_x HE16 HH14 (wt0 rfl) (x_move rfl) rfl rfl fun a_69 HE70 => ?_
      refine pl_x HE70 HH14 (wt0 rfl) (x_len Try.underlying37 rfl) rfl rfl fun a_71 HE72 => ?_
      refine pl_x HE72 HH14 (wt0 rfl) (x_move rfl) rfl rfl fun a_73 HE74 => ?_
      refine pl_x HE74 HH14 (wt0 rfl) (x_len Try.underlying37 rfl) rfl rfl fun a_75 HE76 => ?_
      refine pl_x HE76 HH14 (wt0 rfl) (x_lss rfl rfl) rfl rfl fun a_77 HE78 => ?_
      refine wpList_nil ?_
      clear a_15 HE16 a_69 HE70 a_71 HE72 a_73 HE74 a_75 HE76
      refine nrm ?_
      refine cnd_d HE78 rfl (fun hc28 => ?_) (fun hc28 => ?_)
      · refine wp_seq ?_
        refine rg ?_
        refine pl_x HE78 HH14 (wt0 rfl) (x_assign rfl) rfl rfl fun a_79 HE80 => ?_
        refine wpList_nil ?_
        clear a_77 HE78
        refine nrm ?_
        refine wp_ret ?_
        refine (thn_ret ?_)
        refine ret1 HE80 rfl (rv_tmp rfl) ?_
        have hF : (cmpL a0 a1) = -1 := by
          rw [p21_2]; first | (rw [cmpL_end a0 a1 k (by omega) (by omega) (by omega)]; grind) | (rw [cmpL_step (by omega) (by omega)]; grind [cmpI])
        exact ⟨by first | (rw [hF] <;> rfl) | rfl | (rw [hF]; simp only [Ending.returned.injEq, Value.slice.injEq, true_and, and_true]; first | omega | (simp; done)) | (rw [hF]; simp; omega), HH14.below⟩
      · refine wp_skip ?_
        refine nrm ?_
        refine wp_seq ?_
        refine rg ?_
        refine pl_x HE78 HH14 (wt0 rfl) (x_assign rfl) rfl rfl fun a_81 HE82 => ?_
        refine wpList_nil ?_
        clear a_77 HE78
        refine nrm ?_
        refine wp_ret ?_
        refine ret1 HE82 rfl (rv_tmp rfl) ?_
        have hF : (cmpL a0 a1) = 0 := by
          rw [p21_2]; first | (rw [cmpL_end a0 a1 k (by omega) (by omega) (by omega)]; grind) | (rw [cmpL_step (by omega) (by omega)]; grind [cmpI])
        exact ⟨by first | (rw [hF] <;> rfl) | rfl | (rw [hF]; simp only [Ending.returned.injEq, Value.slice.injEq, true_and, and_true]; first | omega | (simp; done)) | (rw [hF]; simp; omega), HH14.below⟩

set_option maxRecDepth 100000 in
set_option maxHeartbeats 4000000 in
theorem spec_l01Compare (A0 : Option Addr) (c0 : Nat) (a0 : (List Int)) (A1 : Option Addr) (c1 : Nat) (a1 : (List Int)) (w : World) (h0 : Sl eInt w (Old w) A0 c0 a0) (h1 : Sl eInt w (Old w) A1 c1 a1) :
    Calls Try.prog 114 #[.slice A0 a0.length c0, .slice A1 a1.length c1] w fun e w' => e = .returned (.int .i64 (cmpL a0 a1)) ∧ Below w.heap.size w w' := by
  have l0 := h0.len
  have l1 := h1.len
  have HH1 := Held.start Nob w
  refine enter (n := 46) Try.func114 rfl rfl rfl fun a_2 HE3 => ?_
  refine wp_seq ?_
  refine rg ?_
  refine pl_x HE3 HH1 (wt0 rfl) (x_assign rfl) rfl rfl fun a_4 HE5 => ?_
  refine wpList_nil ?_
  clear a_2 HE3
  refine nrm ?_
  refine wp_seq ?_
  refine wp_seq ?_
  refine rg ?_
  refine pl_x HE5 HH1 (wt0 rfl) (x_assign rfl) rfl rfl fun a_6 HE7 => ?_
  refine wpList_nil ?_
  clear a_4 HE5
  refine nrm ?_
  refine wp_block ?_
  refine lp (fun m a w' => ∃ (k : Nat), m = a0.length - k ∧ Env 46 [(5, .int .i64 (k : Int)), (0, .slice A0 (a0.length) c0), (1, .slice A1 (a1.length) c1)] a ∧ Held Nob w [] w' ∧ (k ≤ a0.length) ∧ (k ≤ a1.length) ∧ (cmpL a0 a1 = cmpL (a0.drop k) (a1.drop k))) (a0.length - (0)) ?_ ?_
  · exact ⟨0, rfl, HE7.sub ⟨(lkI rfl (by first | rfl | omega | (simp []; done))), rfl, rfl, trivial⟩, (HH1.sel [] (by decide) rfl), (by first | omega | assumption | (simp; done) | simp_all), (by first | omega | assumption | (simp; done) | simp_all), (by rfl)⟩
  · rintro m a_8 w' ⟨k, rfl, HE9, HH10, p21_0, p21_1, p21_2⟩
    refine wp_seq ?_
    refine wp_seq ?_
    refine rg ?_
    refine pl_x HE9 HH10 (wt0 rfl) (x_move rfl) rfl rfl fun a_11 HE12 => ?_
    refine pl_x HE12 HH10 (wt0 rfl) (x_move rfl) rfl rfl fun a_13 HE14 => ?_
    refine pl_x HE14 HH10 (wt0 rfl) (x_len Try.underlying37 rfl) rfl rfl fun a_15 HE16 => ?_
    refine pl_x HE16 HH10 (wt0 rfl) (x_lss rfl rfl) rfl rfl fun a_17 HE18 => ?_
    refine pl_x HE18 HH10 (wt0 rfl) (x_move rfl) rfl rfl fun a_19 HE20 => ?_
    by_cases hc22 : (k : Int) < (a0.length : Int)
    · refine pl_x HE20 HH10 (wtT HE20 rfl rfl rfl (decide_eq_true hc22)) (x_move rfl) rfl rfl fun a_21 HE22 => ?_
      refine pl_x HE22 HH10 (wtT HE22 rfl rfl rfl (decide_eq_true hc22)) (x_move rfl) rfl rfl fun a_23 HE24 => ?_
      refine pl_x HE24 HH10 (wtT HE24 rfl rfl rfl (decide_eq_true hc22)) (x_len Try.underlying37 rfl) rfl rfl fun a_25 HE26 => ?_
      refine pl_x HE26 HH10 (wtT HE26 rfl rfl rfl (decide_eq_true hc22)) (x_lss rfl rfl) rfl rfl fun a_27 HE28 => ?_
      refine pl_x HE28 HH10 (wt0 rfl) (x_pickT rfl (decide_eq_true hc22) rfl) rfl rfl fun a_29 HE30 => ?_
      refine wpList_nil ?_
      clear a_6 HE7 HH1 a_8 HE9 a_11 HE12 a_13 HE14 a_15 HE16 a_17 HE18 a_19 HE20 a_21 HE22 a_23 HE24 a_25 HE26 a_27 HE28
      refine nrm ?_
      refine cnd_d HE30 rfl (fun hc23 => ?_) (fun hc23 => ?_)
      · refine wp_skip ?_
        refine nrm ?_
        refine wp_seq ?_
        refine wp_block ?_
        refine wp_seq ?_
        refine wp_seq ?_
        refine dr_start (Held Nob w []) 9 #[false, false, false, false, false, false, false, false, false] hmix rfl rfl HH10 (fun _ h => h.sel [] (by decide) rfl) fun w' HH31 => ?_
        have HS32 := HH31
        refine dr_take (i := 0) (ls' := #[true, false, false, false, false, false, false, false, false]) HE30 HS32 rfl (by kernel_rfl) (by kernel_rfl) (by kernel_rfl) (fun _ _ _ h => h) rfl (wt0 rfl) (x_move rfl) rfl rfl fun a_33 HE34 => ?_
        refine dr_take (i := 1) (ls' := #[true, true, false, false, false, false, false, false, false]) HE34 HS32 rfl (by kernel_rfl) (by kernel_rfl) (by kernel_rfl) (fun _ _ _ h => h) rfl (wt0 rfl) (x_move rfl) rfl rfl fun a_35 HE36 => ?_
        have ke24 : k < a0.length := by omega
        obtain ⟨be24, fe24, ese24, Ae24, Re24, De24⟩ := el_old h0 ke24
        obtain ⟨e24, xe24⟩ : ∃ x_, x_ = a0[k] := ⟨_, rfl⟩
        rw [← xe24] at Re24
        have Qe24 := Re24
        obtain ⟨rfl, ie24⟩ := Re24
        have je24 := ie24; unfold I64 at je24
        refine dr_take (i := 2) (ls' := #[true, true, true, false, false, false, false, false, false]) HE36 HS32 rfl (by kernel_rfl) (by kernel_rfl) (by kernel_rfl) (fun _ _ _ h => h) rfl (wt0 rfl) (x_indexAddr ts_37 rfl rfl Ae24 rfl ke24) rfl rfl fun a_37 HE38 => ?_
        refine dr_take (i := 3) (ls' := #[true, true, true, true, false, false, false, false, false]) HE38 HS32 rfl (by kernel_rfl) (by kernel_rfl) (by kernel_rfl) (fun _ _ _ h => h) rfl (wt0 rfl) (x_load1 tv_2 rfl (c_old (De24 0 _ rfl))) rfl rfl fun a_39 HE40 => ?_
        refine dr_take (i := 4) (ls' := #[true, true, true, true, true, false, false, false, false]) HE40 HS32 rfl (by kernel_rfl) (by kernel_rfl) (by kernel_rfl) (fun _ _ _ h => h) rfl (wt0 rfl) (x_move rfl) rfl rfl fun a_41 HE42 => ?_
        refine dr_take (i := 5) (ls' := #[true, true, true, true, true, true, false, false, false]) HE42 HS32 rfl (by kernel_rfl) (by kernel_rfl) (by kernel_rfl) (fun _ _ _ h => h) rfl (wt0 rfl) (x_move rfl) rfl rfl fun a_43 HE44 => ?_
        have ke25 : k < a1.length := by omega
        obtain ⟨be25, fe25, ese25, Ae25, Re25, De25⟩ := el_old h1 ke25
        obtain ⟨e25, xe25⟩ : ∃ x_, x_ = a1[k] := ⟨_, rfl⟩
        rw [← xe25] at Re25
        have Qe25 := Re25
        obtain ⟨rfl, ie25⟩ := Re25
        have je25 := ie25; unfold I64 at je25
        refine dr_take (i := 6) (ls' := #[true, true, true, true, true, true, true, false, false]) HE44 HS32 rfl (by kernel_rfl) (by kernel_rfl) (by kernel_rfl) (fun _ _ _ h => h) rfl (wt0 rfl) (x_indexAddr ts_37 rfl rfl Ae25 rfl ke25) rfl rfl fun a_45 HE46 => ?_
        refine dr_take (i := 7) (ls' := #[true, true, true, true, true, true, true, true, false]) HE46 HS32 rfl (by kernel_rfl) (by kernel_rfl) (by kernel_rfl) (fun _ _ _ h => h) rfl (wt0 rfl) (x_load1 tv_2 rfl (c_old (De25 0 _ rfl))) rfl rfl fun a_47 HE48 => ?_
        refine dr_take (i := 8) (ls' := #[true, true, true, true, true, true, true, true, true]) HE48 HS32 rfl (by kernel_rfl) (by kernel_rfl) (by kernel_rfl) (fun _ _ _ h => h) rfl (wt0 rfl) (x_lss rfl rfl) rfl rfl fun a_49 HE50 => ?_
        refine dr_done (by kernel_rfl) ?_
        clear HH10 a_29 HE30 a_33 HE34 a_35 HE36 a_37 HE38 a_39 HE40 a_41 HE42 a_43 HE44 a_45 HE46 a_47 HE48
        refine nrm ?_
        refine cnd_d HE50 rfl (fun hc26 => ?_) (fun hc26 => ?_)
        · refine wp_seq ?_
          refine rg ?_
          refine pl_x HE50 HH31 (wt0 rfl) (x_assign rfl) rfl rfl fun a_51 HE52 => ?_
          refine wpList_nil ?_
          clear a_49 HE50
          refine nrm ?_
          refine wp_ret ?_
          refine (thn_ret (blk_ret (thn_ret (thn_ret (blk_ret (thn_ret ?_))))))
          refine ret1 HE52 rfl (rv_tmp rfl) ?_
          have hF : (cmpL a0 a1) = -1 := by
            rw [p21_2]; first | (rw [cmpL_end a0 a1 k (by omega) (by omega) (by omega)]; grind) | (rw [cmpL_step (by omega) (by omega)]; grind [cmpI])
          exact ⟨by first | (rw [hF] <;> rfl) | rfl | (rw [hF]; simp only [Ending.returned.injEq, Value.slice.injEq, true_and, and_true]; first | omega | (simp; done)) | (rw [hF]; simp; omega), HH31.below⟩
        · refine wp_skip ?_
          refine nrm ?_
          refine wp_seq ?_
          refine dr_start (Held Nob w []) 9 #[false, false, false, false, false, false, false, false, false] hmix rfl rfl HH31 (fun _ h => h.sel [] (by decide) rfl) fun w' HH53 => ?_
          have HS54 := HH53
          refine dr_take (i := 0) (ls' := #[true, false, false, false, false, false, false, false, false]) HE50 HS54 rfl (by kernel_rfl) (by kernel_rfl) (by kernel_rfl) (fun _ _ _ h => h) rfl (wt0 rfl) (x_move rfl) rfl rfl fun a_55 HE56 => ?_
          refine dr_take (i := 1) (ls' := #[true, true, false, false, false, false, false, false, false]) HE56 HS54 rfl (by kernel_rfl) (by kernel_rfl) (by kernel_rfl) (fun _ _ _ h => h) rfl (wt0 rfl) (x_move rfl) rfl rfl fun a_57 HE58 => ?_
          refine dr_take (i := 2) (ls' := #[true, true, true, false, false, false, false, false, false]) HE58 HS54 rfl (by kernel_rfl) (by kernel_rfl) (by kernel_rfl) (fun _ _ _ h => h) rfl (wt0 rfl) (x_indexAddr ts_37 rfl rfl Ae24 rfl ke24) rfl rfl fun a_59 HE60 => ?_
          refine dr_take (i := 3) (ls' := #[true, true, true, true, false, false, false, false, false]) HE60 HS54 rfl (by kernel_rfl) (by kernel_rfl) (by kernel_rfl) (fun _ _ _ h => h) rfl (wt0 rfl) (x_load1 tv_2 rfl (c_old (De24 0 _ rfl))) rfl rfl fun a_61 HE62 => ?_
          refine dr_take (i := 4) (ls' := #[true, true, true, true, true, false, false, false, false]) HE62 HS54 rfl (by kernel_rfl) (by kernel_rfl) (by kernel_rfl) (fun _ _ _ h => h) rfl (wt0 rfl) (x_move rfl) rfl rfl fun a_63 HE64 => ?_
          refine dr_take (i := 5) (ls' := #[true, true, true, true, true, true, false, false, false]) HE64 HS54 rfl (by kernel_rfl) (by kernel_rfl) (by kernel_rfl) (fun _ _ _ h => h) rfl (wt0 rfl) (x_move rfl) rfl rfl fun a_65 HE66 => ?_
          refine dr_take (i := 6) (ls' := #[true, true, true, true, true, true, true, false, false]) HE66 HS54 rfl (by kernel_rfl) (by kernel_rfl) (by kernel_rfl) (fun _ _ _ h => h) rfl (wt0 rfl) (x_indexAddr ts_37 rfl rfl Ae25 rfl ke25) rfl rfl fun a_67 HE68 => ?_
          refine dr_take (i := 7) (ls' := #[true, true, true, true, true, true, true, true, false]) HE68 HS54 rfl (by kernel_rfl) (by kernel_rfl) (by kernel_rfl) (fun _ _ _ h => h) rfl (wt0 rfl) (x_load1 tv_2 rfl (c_old (De25 0 _ rfl))) rfl rfl fun a_69 HE70 => ?_
          refine dr_take (i := 8) (ls' := #[true, true, true, true, true, true, true, true, true]) HE70 HS54 rfl (by kernel_rfl) (by kernel_rfl) (by kernel_rfl) (fun _ _ _ h => h) rfl (wt0 rfl) (x_gtr rfl rfl) rfl rfl fun a_71 HE72 => ?_
          refine dr_done (by kernel_rfl) ?_
          clear HH31 HS32 a_49 HE50 a_55 HE56 a_57 HE58 a_59 HE60 a_61 HE62 a_63 HE64 a_65 HE66 a_67 HE68 a_69 HE70
          refine nrm ?_
          refine cnd_d HE72 rfl (fun hc27 => ?_) (fun hc27 => ?_)
          · refine wp_seq ?_
            refine rg ?_
            refine pl_x HE72 HH53 (wt0 rfl) (x_assign rfl) rfl rfl fun a_73 HE74 => ?_
            refine wpList_nil ?_
            clear a_71 HE72
            refine nrm ?_
            refine wp_ret ?_
            refine (blk_ret (thn_ret (thn_ret (blk_ret (thn_ret ?_)))))
            refine ret1 HE74 rfl (rv_tmp rfl) ?_
            have hF : (cmpL a0 a1) = 1 := by
              rw [p21_2]; first | (rw [cmpL_end a0 a1 k (by omega) (by omega) (by omega)]; grind) | (rw [cmpL_step (by omega) (by omega)]; grind [cmpI])
            exact ⟨by first | (rw [hF] <;> rfl) | rfl | (rw [hF]; simp only [Ending.returned.injEq, Value.slice.injEq, true_and, and_true]; first | omega | (simp; done)) | (rw [hF]; simp; omega), HH53.below⟩
          · refine wp_skip ?_
            refine blk_n ?_
            refine nrm ?_
            refine rg ?_
            refine pl_x HE72 HH53 (wt0 rfl) (x_move rfl) rfl rfl fun a_75 HE76 => ?_
            refine pl_x HE76 HH53 (wt0 rfl) (x_add rfl rfl (by exact ⟨by omega, by omega⟩)) rfl rfl fun a_77 HE78 => ?_
            refine pl_x HE78 HH53 (wt0 rfl) (x_assign rfl) rfl rfl fun a_79 HE80 => ?_
            refine wpList_nil ?_
            clear a_71 HE72 a_75 HE76 a_77 HE78
            exact nrm ⟨a0.length - (k + 1), (by omega), k + 1, rfl, HE80.sub ⟨(lkI rfl (by first | rfl | omega | (simp [p21_0, p21_1, p21_2, hc22, hc23, xe24, xe25, hc26, hc27]; done))), rfl, rfl, trivial⟩, (HH53.sel [] (by decide) rfl), (by first | omega | assumption | (simp; done) | simp_all), (by first | omega | assumption | (simp; done) | simp_all), (by rw [p21_2, cmpL_step (by omega) (by omega)]; grind [cmpI])⟩
      · refine wp_exit ?_
        refine (thn_exit (thn_exit (blk_hit ?_)))
        refine nrm ?_
        refine wp_seq ?_
        refine wp_seq ?_
        refine rg ?_
        refine pl_x HE30 HH10 (wt0 rfl) (x_move rfl) rfl rfl fun a_81 HE82 => ?_
        refine pl_x HE82 HH10 (wt0 rfl) (x_len Try.underlying37 rfl) rfl rfl fun a_83 HE84 => ?_
        refine pl_x HE84 HH10 (wt0 rfl) (x_move rfl) rfl rfl fun a_85 HE86 => ?_
        refine pl_x HE86 HH10 (wt0 rfl) (x_len Try.underlying37 rfl) rfl rfl fun a_87 HE88 => ?_
        refine pl_x HE88 HH10 (wt0 rfl) (x_lss rfl rfl) rfl rfl fun a_89 HE90 => ?_
        refine wpList_nil ?_
        clear a_29 HE30 a_81 HE82 a_83 HE84 a_85 HE86 a_87 HE88
        refine nrm ?_
        refine cnd_d HE90 rfl (fun hc28 => ?_) (fun hc28 => ?_)
        · refine wp_seq ?_
          refine rg ?_
          refine pl_x HE90 HH10 (wt0 rfl) (x_assign rfl) rfl rfl fun a_91 HE92 => ?_
          refine wpList_nil ?_
          clear a_89 HE90
          refine nrm ?_
          refine wp_ret ?_
          refine (thn_ret ?_)
          refine ret1 HE92 rfl (rv_tmp rfl) ?_
          have hF : (cmpL a0 a1) = -1 := by
            rw [p21_2]; first | (rw [cmpL_end a0 a1 k (by omega) (by omega) (by omega)]; grind) | (rw [cmpL_step (by omega) (by omega)]; grind [cmpI])
          exact ⟨by first | (rw [hF] <;> rfl) | rfl | (rw [hF]; simp only [Ending.returned.injEq, Value.slice.injEq, true_and, and_true]; first | omega | (simp; done)) | (rw [hF]; simp; omega), HH10.below⟩
        · refine wp_skip ?_
          refine nrm ?_
          refine wp_seq ?_
          refine wp_seq ?_
          refine rg ?_
          refine pl_x HE90 HH10 (wt0 rfl) (x_move rfl) rfl rfl fun a_93 HE94 => ?_
          refine pl_x HE94 HH10 (wt0 rfl) (x_len Try.underlying37 rfl) rfl rfl fun a_95 HE96 => ?_
          refine pl_x HE96 HH10 (wt0 rfl) (x_move rfl) rfl rfl fun a_97 HE98 => ?_
          refine pl_x HE98 HH10 (wt0 rfl) (x_len Try.underlying37 rfl) rfl rfl fun a_99 HE100 => ?_
          refine pl_x HE100 HH10 (wt0 rfl) (x_gtr rfl rfl) rfl rfl fun a_101 HE102 => ?_
          refine wpList_nil ?_
          clear a_89 HE90 a_93 HE94 a_95 HE96 a_97 HE98 a_99 HE100
          refine nrm ?_
          refine cnd_d HE102 rfl (fun hc29 => ?_) (fun hc29 => ?_)
          · refine wp_seq ?_
            refine rg ?_
            refine pl_x HE102 HH10 (wt0 rfl) (x_assign rfl) rfl rfl fun a_103 HE104 => ?_
            refine wpList_nil ?_
            clear a_101 HE102
            refine nrm ?_
            refine wp_ret ?_
            refine (thn_ret ?_)
            refine ret1 HE104 rfl (rv_tmp rfl) ?_
            have hF : (cmpL a0 a1) = 1 := by
              rw [p21_2]; first | (rw [cmpL_end a0 a1 k (by omega) (by omega) (by omega)]; grind) | (rw [cmpL_step (by omega) (by omega)]; grind [cmpI])
            exact ⟨by first | (rw [hF] <;> rfl) | rfl | (rw [hF]; simp only [Ending.returned.injEq, Value.slice.injEq, true_and, and_true]; first | omega | (simp; done)) | (rw [hF]; simp; omega), HH10.below⟩
          · refine wp_skip ?_
            refine nrm ?_
            refine wp_seq ?_
            refine rg ?_
            refine pl_x HE102 HH10 (wt0 rfl) (x_assign rfl) rfl rfl fun a_105 HE106 => ?_
            refine wpList_nil ?_
            clear a_101 HE102
            refine nrm ?_
            refine wp_ret ?_
            refine ret1 HE106 rfl (rv_tmp rfl) ?_
            have hF : (cmpL a0 a1) = 0 := by
              rw [p21_2]; first | (rw [cmpL_end a0 a1 k (by omega) (by omega) (by omega)]; grind) | (rw [cmpL_step (by omega) (by omega)]; grind [cmpI])
            exact ⟨by first | (rw [hF] <;> rfl) | rfl | (rw [hF]; simp only [Ending.returned.injEq, Value.slice.injEq, true_and, and_true]; first | omega | (simp; done)) | (rw [hF]; simp; omega), HH10.below⟩
    · refine pl_no HE20 (wtF HE20 rfl rfl rfl (decide_eq_false hc22)) rfl rfl fun a_107 HE108 => ?_
      refine pl_no HE108 (wtF HE108 rfl rfl rfl (decide_eq_false hc22)) rfl rfl fun a_109 HE110 => ?_
      refine pl_no HE110 (wtF HE110 rfl rfl rfl (decide_eq_false hc22)) rfl rfl fun a_111 HE112 => ?_
      refine pl_no HE112 (wtF HE112 rfl rfl rfl (decide_eq_false hc22)) rfl rfl fun a_113 HE114 => ?_
      refine pl_x HE114 HH10 (wt0 rfl) (x_pickF rfl (decide_eq_false hc22) rfl) rfl rfl fun a_115 HE116 => ?_
      refine wpList_nil ?_
      clear a_6 HE7 HH1 a_8 HE9 a_11 HE12 a_13 HE14 a_15 HE16 a_17 HE18 a_19 HE20 a_107 HE108 a_109 HE110 a_111 HE112 a_113 HE114
      refine nrm ?_
      refine cndF HE116 rfl rfl ?_
      refine wp_exit ?_
      refine (thn_exit (thn_exit (blk_hit ?_)))
      refine nrm ?_
      refine wp_seq ?_
      refine wp_seq ?_
      refine rg ?_
      refine pl_x HE116 HH10 (wt0 rfl) (x_move rfl) rfl rfl fun a_117 HE118 => ?_
      refine pl_x HE118 HH10 (wt0 rfl) (x_len Try.underlying37 rfl) rfl rfl fun a_119 HE120 => ?_
      refine pl_x HE120 HH10 (wt0 rfl) (x_move rfl) rfl rfl fun a_121 HE122 => ?_
      refine pl_x HE122 HH10 (wt0 rfl) (x_len Try.underlying37 rfl) rfl rfl fun a_123 HE124 => ?_
      refine pl_x HE124 HH10 (wt0 rfl) (x_lss rfl rfl) rfl rfl fun a_125 HE126 => ?_
      refine wpList_nil ?_
      clear a_115 HE116 a_117 HE118 a_119 HE120 a_121 HE122 a_123 HE124
      refine nrm ?_
      refine cnd_d HE126 rfl (fun hc30 => ?_) (fun hc30 => ?_)
      · refine wp_seq ?_
        refine rg ?_
        refine pl_x HE126 HH10 (wt0 rfl) (x_assign rfl) rfl rfl fun a_127 HE128 => ?_
        refine wpList_nil ?_
        clear a_125 HE126
        refine nrm ?_
        refine wp_ret ?_
        refine (thn_ret ?_)
        refine ret1 HE128 rfl (rv_tmp rfl) ?_
        have hF : (cmpL a0 a1) = -1 := by
          rw [p21_2]; first | (rw [cmpL_end a0 a1 k (by omega) (by omega) (by omega)]; grind) | (rw [cmpL_step (by omega) (by omega)]; grind [cmpI])
        exact ⟨by first | (rw [hF] <;> rfl) | rfl | (rw [hF]; simp only [Ending.returned.injEq, Value.slice.injEq, true_and, and_true]; first | omega | (simp; done)) | (rw [hF]; simp; omega), HH10.below⟩
      · refine wp_skip ?_
        refine nrm ?_
        refine wp_seq ?_
        refine wp_seq ?_
        refine rg ?_
        refine pl_x HE126 HH10 (wt0 rfl) (x_move rfl) rfl rfl fun a_129 HE130 => ?_
        refine pl_x HE130 HH10 (wt0 rfl) (x_len Try.underlying37 rfl) rfl rfl fun a_131 HE132 => ?_
        refine pl_x HE132 HH10 (wt0 rfl) (x_move rfl) rfl rfl fun a_133 HE134 => ?_
        refine pl_x HE134 HH10 (wt0 rfl) (x_len Try.underlying37 rfl) rfl rfl fun a_135 HE136 => ?_
        refine pl_x HE136 HH10 (wt0 rfl) (x_gtr rfl rfl) rfl rfl fun a_137 HE138 => ?_
        refine wpList_nil ?_
        clear a_125 HE126 a_129 HE130 a_131 HE132 a_133 HE134 a_135 HE136
        refine nrm ?_
        refine cnd_d HE138 rfl (fun hc31 => ?_) (fun hc31 => ?_)
        · refine wp_seq ?_
          refine rg ?_
          refine pl_x HE138 HH10 (wt0 rfl) (x_assign rfl) rfl rfl fun a_139 HE140 => ?_
          refine wpList_nil ?_
          clear a_137 HE138
          refine nrm ?_
          refine wp_ret ?_
          refine (thn_ret ?_)
          refine ret1 HE140 rfl (rv_tmp rfl) ?_
          have hF : (cmpL a0 a1) = 1 := by
            rw [p21_2]; first | (rw [cmpL_end a0 a1 k (by omega) (by omega) (by omega)]; grind) | (rw [cmpL_step (by omega) (by omega)]; grind [cmpI])
          exact ⟨by first | (rw [hF] <;> rfl) | rfl | (rw [hF]; simp only [Ending.returned.injEq, Value.slice.injEq, true_and, and_true]; first | omega | (simp; done)) | (rw [hF]; simp; omega), HH10.below⟩
        · refine wp_skip ?_
          refine nrm ?_
          refine wp_seq ?_
          refine rg ?_
          refine pl_x HE138 HH10 (wt0 rfl) (x_assign rfl) rfl rfl fun a_141 HE142 => ?_
          refine wpList_nil ?_
          clear a_137 HE138
          refine nrm ?_
          refine wp_ret ?_
          refine ret1 HE142 rfl (rv_tmp rfl) ?_
          have hF : (cmpL a0 a1) = 0 := by
            rw [p21_2]; first | (rw [cmpL_end a0 a1 k (by omega) (by omega) (by omega)]; grind) | (rw [cmpL_step (by omega) (by omega)]; grind [cmpI])
          exact ⟨by first | (rw [hF] <;> rfl) | rfl | (rw [hF]; simp only [Ending.returned.injEq, Value.slice.injEq, true_and, and_true]; first | omega | (simp; done)) | (rw [hF]; simp; omega), HH10.below⟩

set_option maxRecDepth 100000 in
set_option maxHeartbeats 4000000 in
theorem impl_compareMultiRules (es0 : List Value) (a0 : tMultiRule) (es1 : List Value) (a1 : tMultiRule) (w : World) (h0 : eMultiRule.R w (Old w) es0 a0) (h1 : eMultiRule.R w (Old w) es1 a1) :
    Calls Try.prog 102 #[.agg es0.toArray, .agg es1.toArray] w fun e w' => e = .returned (.int .i64 (cmpMR a0 a1)) ∧ Below w.heap.size w w' := by
  have H0 := h0
  obtain ⟨Az0_1, cz0_1, Az0_2, cz0_2, Az0_3, cz0_3, rfl, gz0_0, gz0_1, gz0_2, gz0_3, gz0_4⟩ := shape_MultiRule h0
  have jz0_0 := gz0_0; unfold I64 at jz0_0
  have lz0_1 := gz0_1.len
  have lz0_2 := gz0_2.len
  have lz0_3 := gz0_3.len
  have jz0_4 := gz0_4; unfold I64 at jz0_4
  have H1 := h1
  obtain ⟨Az1_1, cz1_1, Az1_2, cz1_2, Az1_3, cz1_3, rfl, gz1_0, gz1_1, gz1_2, gz1_3, gz1_4⟩ := shape_MultiRule h1
  have jz1_0 := gz1_0; unfold I64 at jz1_0
  have lz1_1 := gz1_1.len
  have lz1_2 := gz1_2.len
  have lz1_3 := gz1_3.len
  have jz1_4 := gz1_4; unfold I64 at jz1_4
  have HH1 := Held.start Nob w
  refine enter (n := 20) Try.func102 rfl rfl rfl fun a_2 HE3 => ?_
  refine wp_seq ?_
  refine rg ?_
  refine pl fun K_4 hK5 => ?_
  refine st_box (cs := [.int .i64 (a0.1), .slice Az0_1 (a0.2.1.length) cz0_1, .slice Az0_2 (a0.2.2.1.length) cz0_2, .slice Az0_3 (a0.2.2.2.1.length) cz0_3, .int .i64 (a0.2.2.2.2)]) HE3 HH1 rfl rfl (wt0 rfl) rfl fun q21 a_6 w' HE7 HH8 => hK5 _ _ ?_
  refine pl fun K_9 hK10 => ?_
  refine st_box (cs := [.int .i64 (a1.1), .slice Az1_1 (a1.2.1.length) cz1_1, .slice Az1_2 (a1.2.2.1.length) cz1_2, .slice Az1_3 (a1.2.2.2.1.length) cz1_3, .int .i64 (a1.2.2.2.2)]) HE7 HH8 rfl rfl (wt0 rfl) rfl fun q22 a_11 w' HE12 HH13 => hK10 _ _ ?_
  refine pl_x HE12 HH13 (wt0 rfl) (x_assign rfl) rfl rfl fun a_14 HE15 => ?_
  refine wpList_nil ?_
  clear a_2 HE3 HH1 K_4 hK5 a_6 HE7 HH8 a_11 HE12 hK10 K_9
  refine nrm ?_
  refine wp_seq ?_
  refine wp_seq ?_
  refine rg ?_
  refine pl_x HE15 HH13 (wt0 rfl) (x_fieldAddr fa_104_0 rfl) rfl rfl fun a_16 HE17 => ?_
  refine pl_x HE17 HH13 (wt0 rfl) (x_load1 tv_2 rfl (c_blk 1 rfl rfl)) rfl rfl fun a_18 HE19 => ?_
  refine pl_x HE19 HH13 (wt0 rfl) (x_fieldAddr fa_104_0 rfl) rfl rfl fun a_20 HE21 => ?_
  refine pl_x HE21 HH13 (wt0 rfl) (x_load1 tv_2 rfl (c_blk 0 rfl rfl)) rfl rfl fun a_22 HE23 => ?_
  refine pl_x HE23 HH13 (wt0 rfl) (x_neq rfl rfl) rfl rfl fun a_24 HE25 => ?_
  refine wpList_nil ?_
  clear a_14 HE15 a_16 HE17 a_18 HE19 a_20 HE21 a_22 HE23
  refine nrm ?_
  refine cnd_ne HE25 rfl (fun hc23 => ?_) (fun hc23 => ?_)
  · refine wp_seq ?_
    refine wp_seq ?_
    refine rg ?_
    refine pl_x HE25 HH13 (wt0 rfl) (x_fieldAddr fa_104_0 rfl) rfl rfl fun a_26 HE27 => ?_
    refine pl_x HE27 HH13 (wt0 rfl) (x_load1 tv_2 rfl (c_blk 1 rfl rfl)) rfl rfl fun a_28 HE29 => ?_
    refine pl_x HE29 HH13 (wt0 rfl) (x_fieldAddr fa_104_0 rfl) rfl rfl fun a_30 HE31 => ?_
    refine pl_x HE31 HH13 (wt0 rfl) (x_load1 tv_2 rfl (c_blk 0 rfl rfl)) rfl rfl fun a_32 HE33 => ?_
    refine pl_x HE33 HH13 (wt0 rfl) (x_lss rfl rfl) rfl rfl fun a_34 HE35 => ?_
    refine wpList_nil ?_
    clear a_24 HE25 a_26 HE27 a_28 HE29 a_30 HE31 a_32 HE33
    refine nrm ?_
    refine cnd_d HE35 rfl (fun hc24 => ?_) (fun hc24 => ?_)
    · refine wp_seq ?_
      refine rg ?_
      refine pl_x HE35 HH13 (wt0 rfl) (x_assign rfl) rfl rfl fun a_36 HE37 => ?_
      refine wpList_nil ?_
      clear a_34 HE35
      refine nrm ?_
      refine wp_ret ?_
      refine (thn_ret (thn_ret ?_))
      refine ret1 HE37 rfl (rv_tmp rfl) ?_
      have hF : (cmpMR a0 a1) = -1 := by
        first | (unfold cmpMR; grind)
      exact ⟨by first | (rw [hF] <;> rfl) | rfl | (rw [hF]; simp only [Ending.returned.injEq, Value.slice.injEq, true_and, and_true]; first | omega | (simp; done)) | (rw [hF]; simp; omega), HH13.below⟩
    · refine wp_skip ?_
      refine nrm ?_
      refine wp_seq ?_
      refine rg ?_
      refine pl_x HE35 HH13 (wt0 rfl) (x_assign rfl) rfl rfl fun a_38 HE39 => ?_
      refine wpList_nil ?_
      clear a_34 HE35
      refine nrm ?_
      refine wp_ret ?_
      refine (thn_ret ?_)
      refine ret1 HE39 rfl (rv_tmp rfl) ?_
      have hF : (cmpMR a0 a1) = 1 := by
        first | (unfold cmpMR; grind)
      exact ⟨by first | (rw [hF] <;> rfl) | rfl | (rw [hF]; simp only [Ending.returned.injEq, Value.slice.injEq, true_and, and_true]; first | omega | (simp; done)) | (rw [hF]; simp; omega), HH13.below⟩
  · refine wp_skip ?_
    refine nrm ?_
    refine wp_seq ?_
    refine rg ?_
    refine pl_x HE25 HH13 (wt0 rfl) (x_fieldAddr fa_104_1 rfl) rfl rfl fun a_40 HE41 => ?_
    refine pl_x HE41 HH13 (wt0 rfl) (x_load1 tv_37 rfl (c_blk 1 rfl rfl)) rfl rfl fun a_42 HE43 => ?_
    refine pl_x HE43 HH13 (wt0 rfl) (x_fieldAddr fa_104_1 rfl) rfl rfl fun a_44 HE45 => ?_
    refine pl_x HE45 HH13 (wt0 rfl) (x_load1 tv_37 rfl (c_blk 0 rfl rfl)) rfl rfl fun a_46 HE47 => ?_
    refine pl fun K_48 hK49 => ?_
    refine st_call HE47 (wt0 rfl) rfl rfl rfl en_118 rfl rfl (slices_Compare _ _ a0.2.1 _ _ a1.2.1 _ (HH13.old gz0_1) (HH13.old gz1_1)) fun e w' hr => ?_
    obtain ⟨rfl, hbr25⟩ := hr
    have HH50 := HH13.on hbr25
    refine ⟨_, rfl, fun a_51 HE52 => hK49 _ _ ?_⟩
    refine pl_x HE52 HH50 (wt0 rfl) (x_assign rfl) rfl rfl fun a_53 HE54 => ?_
    refine wpList_nil ?_
    clear a_24 HE25 a_40 HE41 a_42 HE43 a_44 HE45 HH13 a_46 HE47 a_51 HE52 hK49 K_48
    refine nrm ?_
    refine wp_ret ?_
    refine ret1 HE54 rfl (rv_tmp rfl) ?_
    have hF : (cmpMR a0 a1) = (cmpL a0.2.1 a1.2.1) := by
      first | (unfold cmpMR; grind)
    exact ⟨by first | (rw [hF] <;> rfl) | rfl | (rw [hF]; simp only [Ending.returned.injEq, Value.slice.injEq, true_and, and_true]; first | omega | (simp; done)) | (rw [hF]; simp; omega), HH50.below⟩

end Go.Proofs.Ythfihlfjphiihaa
