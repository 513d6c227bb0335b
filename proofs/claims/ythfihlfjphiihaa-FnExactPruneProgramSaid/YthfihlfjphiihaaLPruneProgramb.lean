/- What the proof of FnExactPruneProgram needs: contracts of the functions that it reaches, each once. -/
import Derived.Test.YthfihlfjphiihaaProg
import Derived.Test.YthfihlfjphiihaaQMem
import Derived.Test.YthfihlfjphiihaaQOpen
import Derived.Test.YthfihlfjphiihaaLPrunePrograma
import Derived.WalkKit
import Derived.WalkSpells
import Derived.Below
import Derived.LoopTactic
import Derived.Outline
import Derived.Deep.QuietTactic
import Derived.BigQuiet
import Derived.Deep.LoopGhost
import Derived.Handy
import Derived.Lib.Hide
import Derived.Shelf.Abstract
import Derived.StillTailTactics
import Derived.OwnWalk
import Derived.Maps.AppendAt
import Derived.RegionTactic
import Derived.Deep.RegionHeld3
import Derived.IntWalk
import Derived.Deep.Upon
import Derived.Laws.OwnMore
import Derived.Maps.AppendAt
import Derived.Laws.Small
import Derived.Lib.FrozenHead
import Derived.Lib.RuneBytes
import Derived.Lib.LaidTab
import Derived.Laws.StructEq
import Derived.Lib.SliceRun
import Derived.Lib.AppendZeros
import Derived.Shelf.SortG.Plain
import Derived.Shelf.SortG.SortNone
import Derived.Shelf.SlicesG.CompactI
import Derived.Shelf.SlicesG.SearchI
import Derived.Sort.OwnSortedInts
import Derived.Lib.RowBridge
import Derived.Lib.ItoaLen
import Derived.Lib.Join
import Derived.Shelf.Strconv.Itoa4
import Derived.Shelf.Strings.OnBuilder
import Derived.Shelf.Strings.BuilderK
import Derived.Shelf.Strings.BuilderRune
import Derived.Shelf.LaysM
import Derived.Ground.NamesProg
namespace Go.Proofs.Ythfihlfjphiihaa
open Go.RowKit

theorem wpList_append_row {α : Type} {P : Program} {E : Enc α} {enc : α → List Value} (hf : Flat E enc) {t e : TypeId} {bytes : Nat} (he : Elem P E t e bytes) {ops : Array Oper} {rest : List Oper} {o : Oper} {a : Act} {Q : Exit → Act → World → Prop} {w : World} (hgd : o.guard = none) (s x : Operand)
    (ho : o.op = .call { callee := .builtin .append, args := #[s, x], argTypes := #[t, t] }) {base : Nat} {v : Value} {xs ys : List α} (hs : a.eval s = v) (hR : Row E enc e w base v xs)
    {S : Nat → Prop} {A : Option Addr} {c : Nat} (hx : a.eval x = .slice A ys.length c) (hS : Sl E w S A c ys) (h63 : xs.length + ys.length ≤ maxLen) (hbytes : (xs.length + ys.length) * bytes ≤ 140737488355328) (hbase : base ≤ w.heap.size)
    (h : ∀ v' w', Row E enc e w' base v' (xs ++ ys) → w.grownBy w' v.ownBlock → (v'.ownBlock = v.ownBlock ∨ v'.ownBlock = some w.heap.size) → wpList P ops Q rest (a.put o.dst v') w') :
    wpList P ops Q (o :: rest) a w := by
  refine wpList_plain hgd fun K hK => ?_
  obtain ⟨v', w', hr, h2, h3, h4⟩ := run_append_row hf he o.type hR hS h63 hbytes hbase
  unfold Oper.wp execOp
  simp only [ho, resolve, invoke, builtin, Sem.run_bind, Sem.run_pure, Result.andThen_ok, List.map_toArray, List.map_cons, List.map_nil, hs, hx, hr]
  exact hK _ _ (h v' w' h2 h3 h4)

theorem So.take {α : Type} {E : Enc α} {w : World} {S : Nat → Prop} {A : Option Addr} {c : Nat} {xs : List α} (h : So E w S A c xs) (k : Nat) : So E w S A c (xs.take k) :=
  ⟨by have := h.1; rw [List.length_take]; omega, h.2.1, fun hn => by
    obtain ⟨b, off, t, cur, T, hA, hb, hB, hT, hd, hc⟩ := h.2.2 (by rintro rfl; simp at hn)
    refine ⟨b, off, t, cur, T, hA, hb, hB, hT, hd, fun i x hx => hc i x ?_⟩
    rw [List.getElem?_take] at hx
    split at hx
    · exact hx
    · cases hx⟩

theorem Sl.take {α : Type} {E : Enc α} {w : World} {S : Nat → Prop} {A : Option Addr} {c : Nat} {xs : List α} (h : Sl E w S A c xs) (k : Nat) : Sl E w S A c (xs.take k) :=
  ⟨by have := h.1; rw [List.length_take]; omega, h.2.1, fun hn => by
    obtain ⟨b, off, hA, hb, hc⟩ := h.2.2 (by rintro rfl; simp at hn)
    refine ⟨b, off, hA, hb, fun i x hx => hc i x ?_⟩
    rw [List.getElem?_take] at hx
    split at hx
    · exact hx
    · cases hx⟩

/-- One number of an owned slice rewritten. -/
theorem So.setI {w : World} {S : Nat → Prop} {b off c : Nat} {xs : List Int} (h : So eInt w S (some ⟨b, off, none⟩) c xs) {k : Nat} (hk : k < xs.length) {y : Int} (hy : I64 y) : So eInt (w.setCell ⟨b, off + k, none⟩ (.int .i64 y)) S (some ⟨b, off, none⟩) c (xs.set k y) := by
  obtain ⟨b', off', t, cur, T, es, hA, hb, hB, hT, hO, hcells, hre⟩ := h.at hk
  simp only [Option.some.injEq, Addr.mk.injEq, and_true] at hA
  obtain ⟨rfl, rfl⟩ := hA
  refine hre _ [.int .i64 y] y ⟨rfl, hy⟩ ?_ (fun m hm hne _ => Below.heap_setCell _ _ _ _ hne)
  rw [show off + k * eInt.size = off + k from by show off + k * 1 = _; omega]
  exact hB.set _ _

/-- What an owned slice of numbers holds, and that it may be written. -/
theorem So.getI {w : World} {S : Nat → Prop} {A : Option Addr} {c : Nat} {xs : List Int} (h : So eInt w S A c xs) {k : Nat} (hk : k < xs.length) : ∃ b off, A = some ⟨b, off, none⟩ ∧ S b ∧ I64 xs[k] ∧ w.cell? ⟨b, off + k, none⟩ = some (.int .i64 xs[k]) ∧ w.frozen? ⟨b, off + k, none⟩ = false := by
  obtain ⟨b, off, t, cur, T, es, rfl, hb, hB, hT, hO, hcells, _⟩ := h.at hk
  obtain ⟨rfl, hi⟩ := hO
  refine ⟨b, off, rfl, hb, hi, ?_, hB.frozen _⟩
  have := hcells 0 _ rfl
  rw [show off + k * eInt.size + 0 = off + k from by show off + k * 1 + 0 = _; omega] at this
  rw [hB.cell]; exact this

def evp (L : List (Nat × Value)) : List (Nat × Operand) → Option (List (Nat × Value))
  | [] => some []
  | (i, x) :: xs => match ev L x, evp L xs with
    | some v, some vs => some ((i, v) :: vs)
    | _, _ => none

theorem evp_map {n : Nat} {L : List (Nat × Value)} {a : Act} (hE : Env n L a) : ∀ (xs : List (Nat × Operand)) (vs : List (Nat × Value)), evp L xs = some vs → (xs.map fun p => (p.1, a.eval p.2)) = vs
  | [], vs, h => by simp [evp] at h; subst h; rfl
  | (i, x) :: xs, vs, h => by
    simp only [evp] at h
    cases h1 : ev L x with
    | none => simp [h1] at h
    | some v =>
      cases h2 : evp L xs with
      | none => simp [h1, h2] at h
      | some us =>
        simp [h1, h2] at h
        subst h
        rw [List.map_cons, hE.ev h1, evp_map hE xs us h2]

theorem one_cells {v : Value} (h : v.oneCell' = true) : v.cells = #[v] := by cases v <;> first | rfl | (simp [Value.oneCell'] at h)

theorem foldl_setAll (off : Nat) : ∀ (vs : List Value) (k : Nat) (cs : Array Value), (vs.zipIdx k).foldl (fun cs (p : Value × Nat) => cs.setIfInBounds (off + p.2) p.1) cs = setAll cs (off + k) vs
  | [], _, _ => rfl
  | v :: vs, k, cs => by
    rw [List.zipIdx_cons, List.foldl_cons, foldl_setAll off vs (k + 1)]
    rfl

theorem setAll_split (pre mid post vs : List Value) (h : mid.length = vs.length) : setAll (pre ++ mid ++ post).toArray pre.length vs = (pre ++ vs ++ post).toArray := by
  apply Array.ext_getElem?
  intro i
  rw [get_setAll _ _ _ _ (by simp; omega)]
  by_cases h1 : pre.length ≤ i ∧ i < pre.length + vs.length
  · rw [if_pos h1]
    simp only [List.getElem?_toArray]
    rw [List.append_assoc, List.getElem?_append_right h1.1, List.getElem?_append_left (by omega)]
  · rw [if_neg h1]
    simp only [List.getElem?_toArray, List.append_assoc]
    by_cases h2 : i < pre.length
    · rw [List.getElem?_append_left h2, List.getElem?_append_left h2]
    · rw [List.getElem?_append_right (by omega), List.getElem?_append_right (by omega), List.getElem?_append_right (by omega), List.getElem?_append_right (by omega), h]

def numb (j : Nat) : List Value → List (Nat × Value)
  | [] => []
  | v :: vs => (j, v) :: numb (j + 1) vs

theorem fill_all (sz : Nat) : ∀ (vs : List Value) (j : Nat) (pre post : List Value), pre.length = j * sz → post.length = vs.length * sz → (∀ v ∈ vs, v.cells.size = sz) → Instr.fill (fun i => some (i * sz, sz)) (pre ++ post).toArray (numb j vs) = some (pre ++ (vs.map fun v => v.cells.toList).flatten).toArray
  | [], j, pre, post, _, h2, _ => by
    have : post = [] := List.eq_nil_of_length_eq_zero (by simpa using h2)
    subst this; simp [numb, Instr.fill]
  | v :: vs, j, pre, post, h1, h2, h3 => by
    have hv := h3 v (by simp)
    rw [List.length_cons, Nat.succ_mul] at h2
    have hsp : post = post.take sz ++ post.drop sz := (List.take_append_drop sz post).symm
    have hl : (post.take sz).length = v.cells.toList.length := by rw [List.length_take]; simp [hv]; omega
    have hset := setAll_split pre (post.take sz) (post.drop sz) v.cells.toList hl
    have ih := fill_all sz vs (j + 1) (pre ++ v.cells.toList) (post.drop sz) (by simp [h1, hv, Nat.succ_mul]) (by rw [List.length_drop]; omega) (fun u hu => h3 u (by simp [hu]))
    have hfold : v.cells.zipIdx.foldl (fun cs (p : Value × Nat) => cs.setIfInBounds (j * sz + p.2) p.1) (pre ++ post).toArray = (pre ++ v.cells.toList ++ post.drop sz).toArray := by
      rw [← Array.foldl_toList, Array.toList_zipIdx, foldl_setAll, Nat.add_zero, ← h1, ← hset, List.append_assoc, ← hsp]
    have hle : ¬ ((pre ++ post).toArray.size < j * sz + sz) := by simp; omega
    have hc : (v.cells.size ≠ sz || decide (j * sz + v.cells.size > (pre ++ post).toArray.size)) = false := by
      rw [hv]; simp; omega
    simp only [numb, Instr.fill]
    rw [if_neg (by rw [hc]; simp)]
    rw [show (v.cells.zipIdx.foldl (fun cs x => match x with | (c, j_1) => cs.setIfInBounds (j * sz + j_1) c) (pre ++ post).toArray) = (pre ++ v.cells.toList ++ post.drop sz).toArray from hfold, ih]
    simp

/-- A slice literal, all of its elements given. -/
theorem run_lit {P : Program} {n m : Nat} {a : Act} {L : List (Nat × Value)} {w : World} {t e : TypeId} {sz by_ : Nat} {ps : List (Nat × Operand)} {vs : List Value} {cs : List Value} {d : Option Tmp} {ty : TypeId} {pos : String} {af : Array Edge} {g : Option (Nat × Bool)} (hT : TSl P t e sz by_) (hE : Env n L a) (he : evp L ps = some (numb 0 vs)) (hm : vs.length = m) (hv : ∀ v ∈ vs, v.cells.size = sz) (hcs : (vs.map fun v => v.cells.toList).flatten = cs) (hb : m * sz ≤ 16777216) :
    (execOp a.eval ⟨d, .buildSlice t m ps.toArray, ty, pos, af, g⟩).run P w = .ok (.value (.slice (some ⟨w.heap.size, 0, none⟩) m m)) (w.alloc (.cells cs.toArray e)) := by
  obtain ⟨i, z, e1, e2, e3, e4, e5⟩ := hT.info
  subst hm hcs
  have hE' := evp_map hE ps _ he
  have hb' : ¬ (vs.length * i.size > 2 ^ 24) := by rw [e3]; omega
  have key : ∀ zero : Array Value, Instr.fill (fun i_1 => some (i_1 * i.size, i.size)) ((Array.range (vs.length * i.size)).map (zero[· % zero.size]!)) (numb 0 vs) = some (vs.map fun v => v.cells.toList).flatten.toArray := by
    intro zero
    have := fill_all sz vs 0 [] ((Array.range (vs.length * i.size)).map (zero[· % zero.size]!)).toList (by simp) (by simp [e3]) hv
    simp only [List.nil_append, Array.toArray_toList] at this
    rw [e3] at this ⊢; exact this
  simp only [execOp, Instr.buildSlice, List.map_toArray, hE', Sem.run_bind, run_underlying hT.under, Result.andThen_ok, sizeOf, typeInfo, run_program, e1, Sem.run_pure, hb', if_false]
  by_cases h0 : vs.length * i.size = 0
  · simp [h0, newRow] at key ⊢
    have := key #[]
    simp at this
    simp [this]
  · simp [h0, zeroValue, typeInfo, e1, e2, newRow, key]

theorem lkI {t : Nat} {L : List (Nat × Value)} {q : IntKind} {x y : Int} (h : lk t L = some (.int q x)) (e : x = y) : lk t L = some (.int q y) := e ▸ h

theorem Held.to {M : Nat → Prop} {w0 : World} {rs rs' : List Res} {w : World} (h : Held M w0 rs w) (e : rs = rs') : Held M w0 rs' w := e ▸ h

theorem Held.flatO {M : Nat → Prop} {w0 : World} {rs : List Res} {w : World} (h : Held M w0 rs w) {α : Type} {E : Enc α} {cs : List Value} {x : α} (ho : ∀ W, E.O W Nob cs x) : Held M w0 (rO E Nob cs x :: rs) w := h.new (Below.refl _ _) (rO E Nob cs x) (ho w) fun _ h => h.elim

theorem oPrN {α β : Type} {E : Enc α} {F : Enc β} {w : World} {c1 c2 : List Value} {x : α} {y : β} (h1 : E.O w Nob c1 x) (h2 : F.O w Nob c2 y) : (ePr E F).O w Nob (c1 ++ c2) (x, y) := ⟨c1, c2, Nob, Nob, rfl, fun b hb => hb.elim, fun b hb => hb, h1, h2⟩

theorem c_ownI {M : Nat → Prop} {w0 : World} {rs : List Res} {S : Nat → Prop} {b off c k : Nat} {xs : List Int} (i : Nat) (hi : rs[i]? = some (rSo eInt S (some ⟨b, off, none⟩) c xs)) (hk : k < xs.length) : ∀ w, Held M w0 rs w → w.cell? ⟨b, off + k * 1, none⟩ = some (.int .i64 xs[k]) := fun w h => by
  obtain ⟨b', off', es, hA, _, hR, hc⟩ := (h.sl hi).at1 rfl hk
  simp only [Option.some.injEq, Addr.mk.injEq, and_true] at hA
  obtain ⟨rfl, rfl⟩ := hA
  obtain ⟨rfl, _⟩ := hR
  rw [Nat.mul_one]; exact hc _ rfl

theorem i_ownI {M : Nat → Prop} {w0 w : World} {rs : List Res} {S : Nat → Prop} {A : Option Addr} {c k : Nat} {xs : List Int} (h : Held M w0 rs w) (i : Nat) (hi : rs[i]? = some (rSo eInt S A c xs)) (hk : k < xs.length) : I64 xs[k] := by
  obtain ⟨b', off', es, hA, _, hR, hc⟩ := (h.sl hi).at1 rfl hk
  exact hR.2

/-- A literal slice reads as the list of what its elements read as. -/
theorem Held.slLit {M : Nat → Prop} {w0 w : World} {rs : List Res} {α : Type} {E : Enc α} {g : Nat} {t : TypeId} {css : List (List Value)} {xs : List α} (h : Held M w0 rs w) {i : Nat} (hi : rs[i]? = some (rBlk g t css.flatten)) (hl : css.length = xs.length) (hm : xs.length ≤ maxLen) (hR : ∀ (j : Nat) (x : α), xs[j]? = some x → ∃ es, css[j]? = some es ∧ E.R w (Old w) es x) : Sl E w (Old w) (some ⟨g, 0, none⟩) xs.length xs := by
  have hB : Blk w g t css.flatten.toArray := h.get hi
  refine ⟨Nat.le_refl _, hm, fun _ => ⟨g, 0, rfl, Blk.lt hB, fun j x hx => ?_⟩⟩
  obtain ⟨es, h1, h2⟩ := hR j x hx
  refine ⟨es, h2, fun q v hv => ?_⟩
  have hsz : ∀ es ∈ css, es.length = E.size := fun es hes => by
    obtain ⟨m, hm', rfl⟩ := List.getElem_of_mem hes
    obtain ⟨es', h3, h4⟩ := hR m xs[m] (List.getElem?_eq_getElem (by omega))
    rw [List.getElem?_eq_getElem hm'] at h3
    simp at h3; rw [h3]; exact E.len h4
  have hq : q < E.size := by
    have := (List.getElem?_eq_some_iff.1 hv).1
    rw [hsz es (List.mem_of_getElem? h1)] at this; exact this
  have := flatten_at E.size css hsz j es h1 q hq
  rw [Nat.zero_add, hB.cell, List.getElem?_toArray, this]; exact hv

/-- A store into an owned slice of numbers. -/
theorem st_storeI {P : Program} {ops : Array Oper} {Q : Exit → Act → World → Prop} {a : Act} {w : World} {K : Act → World → Prop} {n : Nat} {L : List (Nat × Value)} {M : Nat → Prop} {w0 : World} {rs : List Res} {t : TypeId} {z0 : Value} {x y : Operand} {S : Nat → Prop} {b off c k : Nat} {xs : List Int} {m : Int} {ty : TypeId} {pos : String} {af : Array Edge} {gd : Option (Nat × Bool)} (i : Nat) (hE : Env n L a) (hH : Held M w0 rs w) (ht : TV P t false [z0]) (hx : ev L x = some (.pointer (some ⟨b, off + k * 1, none⟩))) (hy : ev L y = some (.int .i64 m)) (hi : rs[i]? = some (rSo eInt S (some ⟨b, off, none⟩) c xs)) (hk : k < xs.length) (hm : I64 m) (hw : Region.wanted ⟨none, .store t x y, ty, pos, af, gd⟩ (yielded ops a.tmps) = true)
    (kk : ∀ w', Held M w0 (rs.set i (rSo eInt S (some ⟨b, off, none⟩) c (xs.set k m))) w' → K a w') : Stp P ops Q ⟨none, .store t x y, ty, pos, af, gd⟩ a w K := by
  have hso := so_of_o (hH.get hi)
  obtain ⟨b', off', hA, hb, _, hc, hf⟩ := hso.getI hk
  simp only [Option.some.injEq, Addr.mk.injEq, and_true] at hA
  obtain ⟨rfl, rfl⟩ := hA
  have h2 := hso.setI hk hm
  have hlen : (xs.set k m).length = xs.length := List.length_set
  have h3 : Held M w0 (rs.set i (rSo eInt S (some ⟨b, off, none⟩) c (xs.set k m))) (w.setCell ⟨b, off + k, none⟩ (.int .i64 m)) := hH.mut hi ((Chg.refl _ _).set (by exact hb) _) (rSo eInt S (some ⟨b, off, none⟩) c (xs.set k m)) (oSl h2) fun b hb => .inl hb
  refine st_skip hw ?_ rfl (kk _ h3)
  obtain ⟨ii, z, e1, _, e3, _⟩ := ht.info
  rw [Nat.mul_one] at hx
  simp only [execOp, hE.ev hx, hE.ev hy, Instr.storeAt, Instr.sureAddr, storeVar, sizeOf, typeInfo, Sem.run_bind, Sem.run_pure, Result.andThen_ok, run_program, e1]
  have e3' : ii.size = 1 := e3
  have hs : (Go.store ⟨b, off + k, none⟩ (.int .i64 m)).run P w = .ok () (w.setCell ⟨b, off + k, none⟩ (.int .i64 m)) := by simp [Go.store, Sem.run, hc, hf]
  simp [Value.cells, e3', storeCells, add_none, hs]

theorem So.setB {w : World} {S : Nat → Prop} {b off c : Nat} {xs : List Bool} (h : So eBool w S (some ⟨b, off, none⟩) c xs) {k : Nat} (hk : k < xs.length) (y : Bool) : So eBool (w.setCell ⟨b, off + k, none⟩ (.bool y)) S (some ⟨b, off, none⟩) c (xs.set k y) := by
  obtain ⟨b', off', t, cur, T, es, hA, hb, hB, hT, hO, hcells, hre⟩ := h.at hk
  simp only [Option.some.injEq, Addr.mk.injEq, and_true] at hA
  obtain ⟨rfl, rfl⟩ := hA
  refine hre _ [.bool y] y rfl ?_ (fun m hm hne _ => Below.heap_setCell _ _ _ _ hne)
  rw [show off + k * eBool.size = off + k from by show off + k * 1 = _; omega]
  exact hB.set _ _

theorem So.getB {w : World} {S : Nat → Prop} {A : Option Addr} {c : Nat} {xs : List Bool} (h : So eBool w S A c xs) {k : Nat} (hk : k < xs.length) : ∃ b off, A = some ⟨b, off, none⟩ ∧ S b ∧ w.cell? ⟨b, off + k, none⟩ = some (.bool xs[k]) ∧ w.frozen? ⟨b, off + k, none⟩ = false := by
  obtain ⟨b, off, t, cur, T, es, rfl, hb, hB, hT, hO, hcells, _⟩ := h.at hk
  obtain rfl := hO
  refine ⟨b, off, rfl, hb, ?_, hB.frozen _⟩
  have := hcells 0 _ rfl
  rw [show off + k * eBool.size + 0 = off + k from by show off + k * 1 + 0 = _; omega] at this
  rw [hB.cell]; exact this

/-- A store into an owned slice of truth values. -/
theorem st_storeB {P : Program} {ops : Array Oper} {Q : Exit → Act → World → Prop} {a : Act} {w : World} {K : Act → World → Prop} {n : Nat} {L : List (Nat × Value)} {M : Nat → Prop} {w0 : World} {rs : List Res} {t : TypeId} {z0 : Value} {x y : Operand} {S : Nat → Prop} {b off c k : Nat} {xs : List Bool} {m : Bool} {ty : TypeId} {pos : String} {af : Array Edge} {gd : Option (Nat × Bool)} (i : Nat) (hE : Env n L a) (hH : Held M w0 rs w) (ht : TV P t false [z0]) (hx : ev L x = some (.pointer (some ⟨b, off + k * 1, none⟩))) (hy : ev L y = some (.bool m)) (hi : rs[i]? = some (rSo eBool S (some ⟨b, off, none⟩) c xs)) (hk : k < xs.length) (hw : Region.wanted ⟨none, .store t x y, ty, pos, af, gd⟩ (yielded ops a.tmps) = true)
    (kk : ∀ w', Held M w0 (rs.set i (rSo eBool S (some ⟨b, off, none⟩) c (xs.set k m))) w' → K a w') : Stp P ops Q ⟨none, .store t x y, ty, pos, af, gd⟩ a w K := by
  have hso := so_of_o (hH.get hi)
  obtain ⟨b', off', hA, hb, hc, hf⟩ := hso.getB hk
  simp only [Option.some.injEq, Addr.mk.injEq, and_true] at hA
  obtain ⟨rfl, rfl⟩ := hA
  have h2 := hso.setB hk m
  have hlen : (xs.set k m).length = xs.length := List.length_set
  have h3 : Held M w0 (rs.set i (rSo eBool S (some ⟨b, off, none⟩) c (xs.set k m))) (w.setCell ⟨b, off + k, none⟩ (.bool m)) := hH.mut hi ((Chg.refl _ _).set (by exact hb) _) (rSo eBool S (some ⟨b, off, none⟩) c (xs.set k m)) (oSl h2) fun b hb => .inl hb
  refine st_skip hw ?_ rfl (kk _ h3)
  obtain ⟨ii, z, e1, _, e3, _⟩ := ht.info
  rw [Nat.mul_one] at hx
  simp only [execOp, hE.ev hx, hE.ev hy, Instr.storeAt, Instr.sureAddr, storeVar, sizeOf, typeInfo, Sem.run_bind, Sem.run_pure, Result.andThen_ok, run_program, e1]
  have e3' : ii.size = 1 := e3
  have hs : (Go.store ⟨b, off + k, none⟩ (.bool m)).run P w = .ok () (w.setCell ⟨b, off + k, none⟩ (.bool m)) := by simp [Go.store, Sem.run, hc, hf]
  simp [Value.cells, e3', storeCells, add_none, hs]

theorem tv_parts {P : Program} {t : TypeId} {z : Value} {n : Nat} (h : (P.info? t).map (fun i => (i.zero, i.size)) = some (some z, n)) : ∃ i, P.info? t = some i ∧ i.zero = some z ∧ i.size = n := by
  cases hi : P.info? t with
  | none => rw [hi] at h; cases h
  | some i =>
    rw [hi] at h
    simp only [Option.map_some, Option.some.injEq, Prod.mk.injEq] at h
    exact ⟨i, rfl, h.1, h.2⟩

theorem ts_parts {P : Program} {t : TypeId} {z : Value} {n b : Nat} (h : (P.info? t).map (fun i => (i.zero, i.size, i.bytes)) = some (some z, n, b)) : ∃ i, P.info? t = some i ∧ i.zero = some z ∧ i.size = n ∧ i.bytes = b := by
  cases hi : P.info? t with
  | none => rw [hi] at h; cases h
  | some i =>
    rw [hi] at h
    simp only [Option.map_some, Option.some.injEq, Prod.mk.injEq] at h
    exact ⟨i, rfl, h.1, h.2.1, h.2.2⟩

theorem so_rep {α : Type} {E : Enc α} {w : World} {g : Nat} {t : TypeId} {n : Nat} {v : Value} {x : α} (h1 : E.size = 1) (hO : ∀ W, E.O W Nob [v] x) (hB : Blk w g t (List.replicate n v).toArray) (hm : n ≤ maxLen) : So E w (fun b => b = g) (some ⟨g, 0, none⟩) n (List.replicate n x) :=
  ⟨by simp, hm, fun _ => ⟨g, 0, t, _, fun _ _ => False, rfl, rfl, hB, fun _ _ h => h.elim, fun _ _ _ h => h.elim, fun i y hy => by
    have hi := (List.getElem?_eq_some_iff.1 hy).1
    rw [List.length_replicate] at hi
    rw [List.getElem?_replicate_of_lt hi] at hy
    simp at hy; subst hy
    refine ⟨[v], E.omore (hO w) fun _ h => h.elim, fun j u hu => ?_⟩
    rcases j with _ | j
    · simp at hu; subst hu
      rw [h1]; simp [hi]
    · simp at hu⟩⟩

/-- make, of flat elements of one cell. -/
theorem st_make {P : Program} {ops : Array Oper} {Q : Exit → Act → World → Prop} {a : Act} {w : World} {K : Act → World → Prop} {n d : Nat} {L : List (Nat × Value)} {M : Nat → Prop} {w0 : World} {rs : List Res} {α : Type} {E : Enc α} {t e : TypeId} {by_ : Nat} {v : Value} {x : α} {y1 y2 : Operand} {k : Nat} {m m2 : Int} {ty : TypeId} {pos : String} {af : Array Edge} {gd : Option (Nat × Bool)} (hE : Env n L a) (hH : Held M w0 rs w) (ht : TSl P t e 1 by_) (hv : TV P e false [v]) (h1 : E.size = 1) (hO : ∀ W, E.O W Nob [v] x) (hy1 : ev L y1 = some (.int .i64 m)) (hy2 : ev L y2 = some (.int .i64 m2)) (hm : m = (k : Int)) (hm2 : m2 = (k : Int)) (hk : k * by_ ≤ 140737488355328) (hk1 : k ≤ 1000000000000) (hw : Region.wanted ⟨some d, .makeSlice t y1 y2, ty, pos, af, gd⟩ (yielded ops a.tmps) = true) (hn : Nat.blt d n = true)
    (kk : ∀ q a' w', Env n ((d, .slice (some ⟨q, 0, none⟩) (List.replicate k x).length k) :: L) a' → Held M w0 (rSo E (fun b => b = q) (some ⟨q, 0, none⟩) k (List.replicate k x) :: rs) w' → K a' w') : Stp P ops Q ⟨some d, .makeSlice t y1 y2, ty, pos, af, gd⟩ a w K := by
  obtain ⟨i, z, e1, e2, e3, e4, e5⟩ := ht.info
  obtain ⟨i', z', f1, f2, f3, f4⟩ := hv.info
  have hii : i' = i := by rw [e1] at f1; exact (Option.some.inj f1).symm
  subst hii
  have hzz : z' = z := by rw [e2] at f2; exact (Option.some.inj f2).symm
  subst hzz
  subst hm hm2
  have hmade : madeCells #[v] k = (List.replicate k v).toArray := by
    apply Array.ext
    · simp [madeCells]
    · intro j h1 h2
      have : j % 1 = 0 := Nat.mod_one j
      simp [madeCells, this]
  have hb1 : (i'.bytes : Int) * (k : Int) ≤ 281474976710656 := by
    have h : ((i'.bytes * k : Nat) : Int) ≤ 281474976710656 := by rw [e4, Nat.mul_comm]; omega
    rwa [Int.natCast_mul] at h
  have hr := run_make (P := P) w t e i' z' ht.under e1 e2 .i64 .i64 k k (by omega) (Int.le_refl _) hb1 (by omega)
  simp only [Int.toNat_natCast, e3, Nat.mul_one, f4] at hr
  have hrun : (execOp a.eval ⟨some d, .makeSlice t y1 y2, ty, pos, af, gd⟩).run P w = .ok (.value (.slice (some ⟨w.heap.size, 0, none⟩) k k)) (w.alloc (.cells (List.replicate k v).toArray e)) := by
    rw [← hmade]
    simp only [execOp, hE.ev hy1, hE.ev hy2, Sem.run_bind]
    rw [show ([v].toArray) = #[v] from rfl] at hr
    rw [hr]; rfl
  refine st_val hE hw hrun rfl hn fun a' hE' => ?_
  have hB := hH.alloc e (List.replicate k v)
  refine kk w.heap.size a' _ (by rw [List.length_replicate]; exact hE') ?_
  refine hB.turn _ (fun hb => ?_) fun _ hb => hb
  exact oSl (so_rep h1 hO hb (by unfold maxLen; omega))

theorem Env.castI {n t : Nat} {L : List (Nat × Value)} {a : Act} {q : IntKind} {x y : Int} (h : Env n L a) (hl : lk t L = some (.int q x)) (e : x = y) : Env n ((t, .int q y) :: L) a :=
  h.sub' fun s v hv => by
    simp only [lk] at hv
    by_cases hs : Nat.beq s t = true
    · rw [hs] at hv
      have hs' := Nat.eq_of_beq_eq_true hs
      subst hs' e
      simp at hv
      rw [hl, hv]
    · have hs' : Nat.beq s t = false := Bool.eq_false_iff.2 hs
      rw [hs'] at hv; exact hv

/-- A captured variable's cell, as a closure sees it. -/
theorem Held.capB {M : Nat → Prop} {w0 : World} {rs : List Res} {w W : World} {g : Nat} {t : TypeId} {cs : List Value} (h : Held M w0 rs w) (i : Nat) (hi : rs[i]? = some (rBlk g t cs)) (hb : Below w.heap.size w W) : ∀ j v, cs[j]? = some v → W.cell? ⟨g, 0 + j, none⟩ = some v := fun j v hv => by
  have hlt := (h.rng _ (List.mem_of_getElem? hi) g rfl).2
  rw [hb.cell (p := ⟨g, 0 + j, none⟩) hlt]
  exact c_blkN i hi w h j v hv

theorem Env.castS {n t m m' c : Nat} {A : Option Addr} {L : List (Nat × Value)} {a : Act} (h : Env n L a) (hl : lk t L = some (.slice A m c)) (e : m = m') : Env n ((t, .slice A m' c) :: L) a :=
  h.sub' fun s v hv => by
    simp only [lk] at hv
    by_cases hs : Nat.beq s t = true
    · rw [hs] at hv
      have hs' := Nat.eq_of_beq_eq_true hs
      subst hs' e
      simp at hv
      rw [hl, hv]
    · have hs' : Nat.beq s t = false := Bool.eq_false_iff.2 hs
      rw [hs'] at hv; exact hv

/-- What was there, outside M. -/
def Out (M : Nat → Prop) (w : World) (b : Nat) : Prop := b < w.heap.size ∧ ¬ M b

/-- The blocks of some parts. -/
def Foot (xs : List Res) (b : Nat) : Prop := ∃ r ∈ xs, r.S b

theorem Held.startM {w : World} {α : Type} {E : Enc α} {S : Nat → Prop} {cs : List Value} {x : α} (ho : E.O w S cs x) (hS : ∀ b, S b → b < w.heap.size) : Held S w [rO E S cs x] w :=
  ⟨Chg.refl _ _, (fun r hr => by simp at hr; subst hr; exact ho), (fun r hr b hb => by simp at hr; subst hr; exact ⟨.inl hb, hS b hb⟩), by simp⟩

theorem Held.focus {M0 : Nat → Prop} {w0 : World} {xs rs : List Res} {w : World} (h : Held M0 w0 (xs ++ rs) w) : Held (Foot xs) w xs w :=
  ⟨Chg.refl _ _, fun r hr => h.ok r (by simp [hr]), fun r hr b hb => ⟨.inl ⟨r, hr, hb⟩, (h.rng r (by simp [hr]) b hb).2⟩, (List.pairwise_append.1 h.sep).1⟩

theorem Held.back {M0 : Nat → Prop} {w0 : World} {xs ys rs : List Res} {w w' : World} (h : Held M0 w0 (xs ++ rs) w) (h' : Held (Foot xs) w ys w') : Held M0 w0 (ys ++ rs) w' where
  chg := by
    refine ⟨h'.chg.os.trans h.chg.os, h'.chg.tape.trans h.chg.tape, h'.chg.output.trans h.chg.output, Nat.le_trans h.chg.size h'.chg.size, fun k hk hM => ?_⟩
    refine (h'.chg.block k (Nat.lt_of_lt_of_le hk h.chg.size) ?_).trans (h.chg.block k hk hM)
    rintro ⟨r, hr, hb⟩
    rcases (h.rng r (by simp [hr]) k hb).1 with q | q
    · exact hM q
    · omega
  ok := by
    intro r hr
    rcases List.mem_append.1 hr with hr | hr
    · exact h'.ok r hr
    · refine r.loc w w' (fun b hb => h'.chg.block b (h.rng r (by simp [hr]) b hb).2 ?_) (h.ok r (by simp [hr]))
      rintro ⟨s, hs, hb'⟩
      exact (List.pairwise_append.1 h.sep).2.2 s hs r hr b hb' hb
  rng := by
    intro r hr b hb
    rcases List.mem_append.1 hr with hr | hr
    · obtain ⟨h1, h2⟩ := h'.rng r hr b hb
      refine ⟨?_, h2⟩
      rcases h1 with ⟨s, hs, hb'⟩ | h1
      · exact (h.rng s (by simp [hs]) b hb').1
      · exact .inr (Nat.le_trans h.size h1)
    · have h1 := h.rng r (by simp [hr]) b hb
      exact ⟨h1.1, Nat.lt_of_lt_of_le h1.2 h'.chg.size⟩
  sep := by
    refine List.pairwise_append.2 ⟨h'.sep, (List.pairwise_append.1 h.sep).2.1, fun r hr s hs b hb hb' => ?_⟩
    rcases (h'.rng r hr b hb).1 with ⟨q, hq, hb2⟩ | h1
    · exact (List.pairwise_append.1 h.sep).2.2 q hq s hs b hb2 hb'
    · have := (h.rng s (by simp [hs]) b hb').2; omega

theorem Held.oldM {M : Nat → Prop} {w0 : World} {rs : List Res} {w : World} {α : Type} {E : Enc α} {A : Option Addr} {c : Nat} {xs : List α} (h : Held M w0 rs w) (hs : Sl E w0 (Out M w0) A c xs) : Sl E w (Old w) A c xs :=
  (hs.keep (fun p hp => World.cell?_of_block (w := w0) (h.chg.block p.block hp.1 hp.2))).more fun b hb => Nat.lt_of_lt_of_le hb.1 h.chg.size

theorem Held.oldRM {M : Nat → Prop} {w0 : World} {rs : List Res} {w : World} {α : Type} {E : Enc α} {cs : List Value} {x : α} (h : Held M w0 rs w) (hs : E.R w0 (Out M w0) cs x) : E.R w (Old w) cs x :=
  E.more (E.keep hs (fun p hp => World.cell?_of_block (w := w0) (h.chg.block p.block hp.1 hp.2))) fun b hb => Nat.lt_of_lt_of_le hb.1 h.chg.size

/-- A borrowed slice, as a callee that rewrites xs sees it. -/
theorem Held.lend {w0 : World} {xs rs : List Res} {w : World} {α : Type} {E : Enc α} {A : Option Addr} {c : Nat} {zs : List α} (h : Held Nob w0 (xs ++ rs) w) (hs : Sl E w0 (Old w0) A c zs) : Sl E w (Out (Foot xs) w) A c zs :=
  (hs.keep (fun p hp => h.cell0 hp fun h => h)).more fun b hb => ⟨Nat.lt_of_lt_of_le hb h.size, by
    rintro ⟨r, hr, hb'⟩
    rcases (h.rng r (by simp [hr]) b hb').1 with q | q
    · exact q.elim
    · have : b < w0.heap.size := hb
      omega⟩

theorem Held.lendM {M : Nat → Prop} {w0 : World} {xs rs : List Res} {w : World} {α : Type} {E : Enc α} {A : Option Addr} {c : Nat} {zs : List α} (h : Held M w0 (xs ++ rs) w) (hs : Sl E w0 (Out M w0) A c zs) : Sl E w (Out (Foot xs) w) A c zs :=
  (hs.keep (fun p hp => h.cell0 hp.1 hp.2)).more fun b hb => ⟨Nat.lt_of_lt_of_le hb.1 h.size, by
    rintro ⟨r, hr, hb'⟩
    rcases (h.rng r (by simp [hr]) b hb').1 with q | q
    · exact hb.2 q
    · have : b < w0.heap.size := hb.1
      omega⟩

/-- A part that is owned, as a callee that rewrites other parts sees it. -/
theorem Held.lendR {M : Nat → Prop} {w0 : World} {xs rs : List Res} {w : World} {α : Type} {E : Enc α} {S : Nat → Prop} {cs : List Value} {x : α} (h : Held M w0 (xs ++ rs) w) {i : Nat} (hi : rs[i]? = some (rO E S cs x)) : E.R w (Out (Foot xs) w) cs x :=
  E.more (E.read (h.ok _ (List.mem_append_right _ (List.mem_of_getElem? hi)))) fun b hb => ⟨(h.rng _ (List.mem_append_right _ (List.mem_of_getElem? hi)) b hb).2, by
    rintro ⟨r, hr, hb'⟩
    exact (List.pairwise_append.1 h.sep).2.2 r hr _ (List.mem_of_getElem? hi) b hb' hb⟩

theorem Held.lendO {w0 : World} {xs rs : List Res} {w : World} {α : Type} {E : Enc α} {cs : List Value} {x : α} (h : Held Nob w0 (xs ++ rs) w) (hs : E.R w0 (Old w0) cs x) : E.R w (Out (Foot xs) w) cs x :=
  E.more (E.keep hs (fun p hp => h.cell0 hp fun h => h)) fun b hb => ⟨Nat.lt_of_lt_of_le hb h.size, by
    rintro ⟨r, hr, hb'⟩
    rcases (h.rng r (by simp [hr]) b hb').1 with q | q
    · exact q.elim
    · have : b < w0.heap.size := hb
      omega⟩

theorem Held.lendOM {M : Nat → Prop} {w0 : World} {xs rs : List Res} {w : World} {α : Type} {E : Enc α} {cs : List Value} {x : α} (h : Held M w0 (xs ++ rs) w) (hs : E.R w0 (Out M w0) cs x) : E.R w (Out (Foot xs) w) cs x :=
  E.more (E.keep hs (fun p hp => h.cell0 hp.1 hp.2)) fun b hb => ⟨Nat.lt_of_lt_of_le hb.1 h.size, by
    rintro ⟨r, hr, hb'⟩
    rcases (h.rng r (by simp [hr]) b hb').1 with q | q
    · exact hb.2 q
    · have : b < w0.heap.size := hb.1
      omega⟩

theorem Held.nfB {M : Nat → Prop} {w0 : World} {xs rs : List Res} {w : World} (h : Held M w0 (xs ++ rs) w) {i g : Nat} {t : TypeId} {cs : List Value} (hi : rs[i]? = some (rBlk g t cs)) : ¬ Foot xs g := by
  rintro ⟨r, hr, hb'⟩
  exact (List.pairwise_append.1 h.sep).2.2 r hr _ (List.mem_of_getElem? hi) g hb' rfl

theorem block_of_cell {w : World} {b o : Nat} {v : Value} (h : w.cell? ⟨b, o, none⟩ = some v) : b < w.heap.size := by
  rcases Nat.lt_or_ge b w.heap.size with h1 | h1
  · exact h1
  · exfalso
    unfold World.cell? at h
    simp [Array.getElem?_eq_none h1] at h

theorem Held.nfO {w0 : World} {xs rs : List Res} {w : World} (h : Held Nob w0 (xs ++ rs) w) {b o : Nat} {v : Value} (hc : w0.cell? ⟨b, o, none⟩ = some v) : ¬ Foot xs b := by
  rintro ⟨r, hr, hb'⟩
  rcases (h.rng r (by simp [hr]) b hb').1 with q | q
  · exact q.elim
  · have := block_of_cell hc
    omega

theorem Held.nfOM {M : Nat → Prop} {w0 : World} {xs rs : List Res} {w : World} (h : Held M w0 (xs ++ rs) w) {b o : Nat} {v : Value} (hM : ¬ M b) (hc : w0.cell? ⟨b, o, none⟩ = some v) : ¬ Foot xs b := by
  rintro ⟨r, hr, hb'⟩
  rcases (h.rng r (by simp [hr]) b hb').1 with q | q
  · exact hM q
  · have := block_of_cell hc
    omega

theorem c_oldM {M : Nat → Prop} {w0 : World} {rs : List Res} {b o : Nat} {v : Value} (hM : ¬ M b) (hc : w0.cell? ⟨b, o, none⟩ = some v) : ∀ w, Held M w0 rs w → w.cell? ⟨b, o, none⟩ = some v := fun w h => by
  rw [h.cell0 (lt_of_cell hc) hM]; exact hc

theorem c_oldNM {M : Nat → Prop} {w0 : World} {rs : List Res} {b o : Nat} {cs : List Value} (hM : ¬ M b) (hc : ∀ j v, cs[j]? = some v → w0.cell? ⟨b, o + j, none⟩ = some v) : ∀ w, Held M w0 rs w → ∀ j v, cs[j]? = some v → w.cell? ⟨b, o + j, none⟩ = some v := fun w h j v hv => c_oldM hM (hc j v hv) w h

/-- The flat part in front given up. -/
theorem Held.unF {M : Nat → Prop} {w0 : World} {rs : List Res} {w : World} {α β : Type} {E : Enc α} {F : Enc β} {S : Nat → Prop} {v : Value} {cs : List Value} {x : α × β} (h1 : E.size = 1) (h : Held M w0 (rO (ePr E F) S (v :: cs) x :: rs) w) : Held M w0 (rO F S cs x.2 :: rs) w := by
  refine h.turn _ ?_ fun _ hb => hb
  rintro ⟨c1, c2, S1, S2, he, k1, k2, o1, o2⟩
  have hl := E.len (E.read o1)
  rw [h1] at hl
  obtain ⟨u, rfl⟩ := List.length_eq_one_iff.1 hl
  simp at he
  obtain ⟨_, rfl⟩ := he
  exact F.omore o2 k2

theorem Held.unP {M : Nat → Prop} {w0 : World} {rs : List Res} {w : World} {α β : Type} {E : Enc α} {F : Enc β} {S : Nat → Prop} {v : Value} {cs : List Value} {x : α × β} (h1 : E.size = 1) (h : Held M w0 (rO (ePr E F) S (v :: cs) x :: rs) w) : ∃ S1 S2, Held M w0 (rO E S1 [v] x.1 :: rO F S2 cs x.2 :: rs) w := by
  obtain ⟨c1, c2, S1, S2, he, k1, k2, o1, o2⟩ := h.ok _ (List.mem_cons_self)
  have hl := E.len (E.read o1)
  rw [h1] at hl
  obtain ⟨u, rfl⟩ := List.length_eq_one_iff.1 hl
  simp at he
  obtain ⟨rfl, rfl⟩ := he
  have hs := List.pairwise_cons.1 h.sep
  refine ⟨S1, S2, h.chg, ?_, ?_, ?_⟩
  · intro r hr
    simp only [List.mem_cons] at hr
    rcases hr with rfl | rfl | hr
    · exact o1
    · exact o2
    · exact h.ok r (by simp [hr])
  · intro r hr b hb
    simp only [List.mem_cons] at hr
    rcases hr with rfl | rfl | hr
    · exact h.rng _ (List.mem_cons_self) b (k1 b hb).1
    · exact h.rng _ (List.mem_cons_self) b (k2 b hb)
    · exact h.rng r (by simp [hr]) b hb
  · refine List.pairwise_cons.2 ⟨fun r hr b hb hb' => ?_, List.pairwise_cons.2 ⟨fun r hr b hb hb' => hs.1 r hr b (k2 b hb) hb', hs.2⟩⟩
    rcases List.mem_cons.1 hr with rfl | hr
    · exact (k1 b hb).2 hb'
    · exact hs.1 r hr b (k1 b hb).1 hb'

/-- An owned slice with one element laid open: its cells es; what the element owns (T) is held apart. -/
def Foc {α : Type} (E : Enc α) (w : World) (S : Nat → Prop) (b off c : Nat) (xs : List α) (k : Nat) (es : List Value) : Prop :=
  k < xs.length ∧ xs.length ≤ c ∧ c ≤ maxLen ∧ S b ∧ es.length = E.size ∧ ∃ (t : TypeId) (cur : Array Value) (T : Nat → Nat → Prop), Blk w b t cur ∧ (∀ i m, T i m → S m ∧ m ≠ b) ∧ (∀ i j m, T i m → T j m → i = j) ∧
    (∀ j v, es[j]? = some v → cur[off + k * E.size + j]? = some v) ∧ ∀ (i : Nat) (x : α), i ≠ k → xs[i]? = some x → ∃ us, E.O w (T i) us x ∧ ∀ j v, us[j]? = some v → cur[off + i * E.size + j]? = some v

theorem Foc.keep {α : Type} {E : Enc α} {w w' : World} {S : Nat → Prop} {b off c : Nat} {xs : List α} {k : Nat} {es : List Value} (h : Foc E w S b off c xs k es) (hk : ∀ b, S b → w'.heap[b]? = w.heap[b]?) : Foc E w' S b off c xs k es := by
  obtain ⟨h1, h2, h3, h4, h5, t, cur, T, hB, hT, hd, hc, hr⟩ := h
  refine ⟨h1, h2, h3, h4, h5, t, cur, T, (hk b h4).trans hB, hT, hd, hc, fun i x hi hx => ?_⟩
  obtain ⟨us, q1, q2⟩ := hr i x hi hx
  exact ⟨us, E.okeep q1 fun m hm => hk m (hT i m hm).1, q2⟩

def rFoc {α : Type} (E : Enc α) (S : Nat → Prop) (b off c : Nat) (xs : List α) (k : Nat) (es : List Value) : Res := ⟨S, fun w => Foc E w S b off c xs k es, fun _ _ h hf => hf.keep h⟩

theorem Held.open {M : Nat → Prop} {w0 : World} {rs : List Res} {w : World} {α : Type} {E : Enc α} {S : Nat → Prop} {A : Option Addr} {c : Nat} {xs : List α} (h : Held M w0 (rSo E S A c xs :: rs) w) {k : Nat} (hk : k < xs.length) :
    ∃ b off es T, A = some ⟨b, off, none⟩ ∧ E.R w (Old w) es xs[k] ∧ (∀ m, T m → S m ∧ m ≠ b) ∧ Held M w0 (rFoc E (fun m => S m ∧ ¬ T m) b off c xs k es :: rO E T es xs[k] :: rs) w := by
  have hso := so_of_o (h.ok _ (List.mem_cons_self))
  have hrng := h.rng _ (List.mem_cons_self)
  obtain ⟨b, off, t, cur, T, hA, hb, hB, hT, hd, hc⟩ := hso.2.2 (by intro e; subst e; simp at hk)
  obtain ⟨es, h1, h2⟩ := hc k xs[k] (List.getElem?_eq_getElem hk)
  have hs := List.pairwise_cons.1 h.sep
  refine ⟨b, off, es, T k, hA, E.more (E.read h1) (fun m hm => (hrng m (hT k m hm).1).2), fun m hm => hT k m hm, h.chg, ?_, ?_, ?_⟩
  · intro r hr
    simp only [List.mem_cons] at hr
    rcases hr with rfl | rfl | hr
    · refine ⟨hk, hso.1, hso.2.1, ⟨hb, fun hm => (hT k b hm).2 rfl⟩, E.len (E.read h1), t, cur, fun i m => i ≠ k ∧ T i m, hB, fun i m hm => ⟨⟨(hT i m hm.2).1, fun hm' => hm.1 (hd i k m hm.2 hm')⟩, (hT i m hm.2).2⟩, fun i j m h3 h4 => hd i j m h3.2 h4.2, h2, fun i x hi hx => ?_⟩
      obtain ⟨us, q1, q2⟩ := hc i x hx
      exact ⟨us, E.omore q1 fun m hm => ⟨hi, hm⟩, q2⟩
    · exact h1
    · exact h.ok r (by simp [hr])
  · intro r hr m hm
    simp only [List.mem_cons] at hr
    rcases hr with rfl | rfl | hr
    · exact hrng m hm.1
    · exact hrng m (hT k m hm).1
    · exact h.rng r (by simp [hr]) m hm
  · refine List.pairwise_cons.2 ⟨fun r hr m hm hm' => ?_, List.pairwise_cons.2 ⟨fun r hr m hm hm' => hs.1 r hr m (hT k m hm).1 hm', hs.2⟩⟩
    rcases List.mem_cons.1 hr with rfl | hr
    · exact hm.2 hm'
    · exact hs.1 r hr m hm.1 hm'

theorem Held.shut {M : Nat → Prop} {w0 : World} {rs : List Res} {w : World} {α : Type} {E : Enc α} {S T : Nat → Prop} {b off c k : Nat} {xs : List α} {es : List Value} {y : α} (h : Held M w0 (rFoc E S b off c xs k es :: rO E T es y :: rs) w) : Held M w0 (rSo E (fun m => S m ∨ T m) (some ⟨b, off, none⟩) c (xs.set k y) :: rs) w := by
  refine h.join _ (fun hf ho hd => ?_) fun _ hb => hb
  obtain ⟨h1, h2, h3, h4, h5, t, cur, T', hB, hT, hd', hc, hr⟩ := hf
  refine oSl ⟨by rw [List.length_set]; exact h2, h3, fun _ => ⟨b, off, t, cur, fun i m => (i = k ∧ T m) ∨ (i ≠ k ∧ T' i m), rfl, .inl h4, hB, ?_, ?_, fun i x hx => ?_⟩⟩
  · rintro i m (⟨_, hm⟩ | ⟨_, hm⟩)
    · exact ⟨.inr hm, fun e => hd b h4 (e ▸ hm)⟩
    · exact ⟨.inl (hT i m hm).1, (hT i m hm).2⟩
  · rintro i j m (⟨hi, hm⟩ | ⟨hi, hm⟩) (⟨hj, hm'⟩ | ⟨hj, hm'⟩)
    · rw [hi, hj]
    · exact absurd hm (hd m (hT j m hm').1)
    · exact absurd hm' (hd m (hT i m hm).1)
    · exact hd' i j m hm hm'
  · by_cases e : i = k
    · subst e
      rw [List.getElem?_set_self h1] at hx
      simp at hx; subst hx
      exact ⟨es, E.omore ho fun m hm => .inl ⟨rfl, hm⟩, hc⟩
    · rw [List.getElem?_set_ne (fun h => e h.symm)] at hx
      obtain ⟨us, q1, q2⟩ := hr i x e hx
      exact ⟨us, E.omore q1 fun m hm => .inr ⟨e, hm⟩, q2⟩

theorem c_foc {M : Nat → Prop} {w0 : World} {rs : List Res} {α : Type} {E : Enc α} {S : Nat → Prop} {b off c k : Nat} {xs : List α} {es : List Value} {j : Nat} {v : Value} (i : Nat) (hi : rs[i]? = some (rFoc E S b off c xs k es)) (hv : es[j]? = some v) : ∀ w, Held M w0 rs w → w.cell? ⟨b, off + k * E.size + j, none⟩ = some v := fun w h => by
  obtain ⟨h1, h2, h3, h4, h5, t, cur, T, hB, hT, hd, hc, hr⟩ := h.get hi
  rw [hB.cell]; exact hc j v hv

theorem c_focN {M : Nat → Prop} {w0 : World} {rs : List Res} {α : Type} {E : Enc α} {S : Nat → Prop} {b off c k : Nat} {xs : List α} {es : List Value} (i : Nat) (hi : rs[i]? = some (rFoc E S b off c xs k es)) : ∀ w, Held M w0 rs w → ∀ j v, es[j]? = some v → w.cell? ⟨b, off + k * E.size + j, none⟩ = some v := fun w h _ _ hv => c_foc i hi hv w h

/-- A store into a cell of the element that is laid open. -/
theorem st_storeF {P : Program} {ops : Array Oper} {Q : Exit → Act → World → Prop} {a : Act} {w : World} {K : Act → World → Prop} {n : Nat} {L : List (Nat × Value)} {M : Nat → Prop} {w0 : World} {rs : List Res} {α : Type} {E : Enc α} {t : TypeId} {z0 : Value} {x y : Operand} {S : Nat → Prop} {b off c k j o : Nat} {xs : List α} {es : List Value} {v : Value} {ty : TypeId} {pos : String} {af : Array Edge} {gd : Option (Nat × Bool)} (i : Nat) (hE : Env n L a) (hH : Held M w0 rs w) (ht : TV P t false [z0]) (hx : ev L x = some (.pointer (some ⟨b, o, none⟩))) (ho : o = off + k * E.size + j) (hy : ev L y = some v) (hv : v.oneCell' = true) (hi : rs[i]? = some (rFoc E S b off c xs k es)) (hj : Nat.blt j es.length = true) (hw : Region.wanted ⟨none, .store t x y, ty, pos, af, gd⟩ (yielded ops a.tmps) = true)
    (kk : ∀ w', Held M w0 (rs.set i (rFoc E S b off c xs k (es.set j v))) w' → K a w') : Stp P ops Q ⟨none, .store t x y, ty, pos, af, gd⟩ a w K := by
  have hj' : j < es.length := by simpa [Nat.blt_eq] using hj
  have hf : Foc E w S b off c xs k es := hH.get hi
  subst ho
  obtain ⟨h1, h2, h3, h4, h5, tt, cur, T, hB, hT, hd, hc, hr⟩ := hf
  have hcell : w.cell? ⟨b, off + k * E.size + j, none⟩ = some es[j] := by rw [hB.cell]; exact hc j _ (List.getElem?_eq_getElem hj')
  have hfz : w.frozen? ⟨b, off + k * E.size + j, none⟩ = false := hB.frozen _
  have hlt : off + k * E.size + j < cur.size := lt_of_get (hc j _ (List.getElem?_eq_getElem hj'))
  have hnew : Foc E (w.setCell ⟨b, off + k * E.size + j, none⟩ v) S b off c xs k (es.set j v) := by
    refine ⟨h1, h2, h3, h4, by simpa using h5, tt, _, T, hB.set _ v, hT, hd, fun j' u hu => ?_, fun i' y' hi' hx' => ?_⟩
    · by_cases e : j' = j
      · subst e
        rw [List.getElem?_set_self hj'] at hu
        rw [Array.getElem?_setIfInBounds_self_of_lt hlt]; exact hu
      · rw [List.getElem?_set_ne (fun h => e h.symm)] at hu
        rw [Array.getElem?_setIfInBounds_ne (by omega)]; exact hc j' u hu
    · obtain ⟨us, q1, q2⟩ := hr i' y' hi' hx'
      refine ⟨us, E.okeep q1 fun m hm => Below.heap_setCell _ _ _ _ (hT i' m hm).2, fun j' u hu => ?_⟩
      have hju := (List.getElem?_eq_some_iff.1 hu).1
      have hlu := E.len (E.read q1)
      rw [Array.getElem?_setIfInBounds_ne]
      · exact q2 j' u hu
      · rcases Nat.lt_or_gt_of_ne hi' with hlt' | hlt'
        · have : (i' + 1) * E.size ≤ k * E.size := Nat.mul_le_mul_right _ (by omega)
          rw [Nat.succ_mul] at this; omega
        · have : (k + 1) * E.size ≤ i' * E.size := Nat.mul_le_mul_right _ (by omega)
          rw [Nat.succ_mul] at this; omega
  have h6 : Held M w0 (rs.set i (rFoc E S b off c xs k (es.set j v))) (w.setCell ⟨b, off + k * E.size + j, none⟩ v) := hH.mut hi ((Chg.refl _ _).set (by exact h4) _) (rFoc E S b off c xs k (es.set j v)) hnew fun b hb => .inl hb
  refine st_skip hw ?_ rfl (kk _ h6)
  obtain ⟨ii, z, e1, _, e3, _⟩ := ht.info
  simp only [execOp, hE.ev hx, hE.ev hy, Instr.storeAt, Instr.sureAddr, storeVar, sizeOf, typeInfo, Sem.run_bind, Sem.run_pure, Result.andThen_ok, run_program, e1]
  have e3' : ii.size = 1 := e3
  have hs : (Go.store ⟨b, off + k * E.size + j, none⟩ v).run P w = .ok () (w.setCell ⟨b, off + k * E.size + j, none⟩ v) := by
    cases v <;> first | (simp [Value.oneCell'] at hv; done) | simp [Go.store, Sem.run, hcell, hfz]
  simp [one_cells hv, e3', storeCells, add_none, hs]

theorem c_ownV {M : Nat → Prop} {w0 : World} {rs : List Res} {S : Nat → Prop} {b off c k : Nat} {xs : List Int} {y : Int} (i : Nat) (hi : rs[i]? = some (rSo eInt S (some ⟨b, off, none⟩) c xs)) (hk : k < xs.length) (hy : xs[k] = y) : ∀ w, Held M w0 rs w → w.cell? ⟨b, off + k * 1, none⟩ = some (.int .i64 y) := fun w h => by
  rw [← hy]; exact c_ownI i hi hk w h

theorem c_ownB {M : Nat → Prop} {w0 : World} {rs : List Res} {S : Nat → Prop} {b off c k : Nat} {xs : List Bool} (i : Nat) (hi : rs[i]? = some (rSo eBool S (some ⟨b, off, none⟩) c xs)) (hk : k < xs.length) : ∀ w, Held M w0 rs w → w.cell? ⟨b, off + k * 1, none⟩ = some (.bool xs[k]) := fun w h => by
  obtain ⟨b', off', es, hA, _, hR, hc⟩ := (h.sl hi).at1 rfl hk
  simp only [Option.some.injEq, Addr.mk.injEq, and_true] at hA
  obtain ⟨rfl, rfl⟩ := hA
  obtain rfl := hR
  rw [Nat.mul_one]; exact hc _ rfl

theorem c_ownBV {M : Nat → Prop} {w0 : World} {rs : List Res} {S : Nat → Prop} {b off c k : Nat} {xs : List Bool} {y : Bool} (i : Nat) (hi : rs[i]? = some (rSo eBool S (some ⟨b, off, none⟩) c xs)) (hk : k < xs.length) (hy : xs[k] = y) : ∀ w, Held M w0 rs w → w.cell? ⟨b, off + k * 1, none⟩ = some (.bool y) := fun w h => by
  rw [← hy]; exact c_ownB i hi hk w h

theorem Held.relen {M : Nat → Prop} {w0 : World} {rs : List Res} {w : World} {α : Type} {E : Enc α} {S : Nat → Prop} {A : Option Addr} {c n : Nat} {xs : List α} (h : Held M w0 (rSo E S A c xs :: rs) w) (hn : xs.length = n) : Held M w0 (rO (eSl E) S [.slice A n c] xs :: rs) w := hn ▸ h

theorem Held.lt {M : Nat → Prop} {w0 : World} {rs : List Res} {w : World} (h : Held M w0 rs w) {i : Nat} {r : Res} (hi : rs[i]? = some r) : ∀ b, r.S b → b < w.heap.size := fun b hb => (h.rng r (List.mem_of_getElem? hi) b hb).2

/-- What a callee made, beside what is held. -/
theorem Held.app {M : Nat → Prop} {w0 : World} {rs qs : List Res} {w w' : World} (h : Held M w0 rs w) (h' : Held Nob w qs w') : Held M w0 (qs ++ rs) w' where
  chg := (h.on h'.below).chg
  ok := by
    intro r hr
    rcases List.mem_append.1 hr with hr | hr
    · exact h'.ok r hr
    · exact (h.on h'.below).ok r hr
  rng := by
    intro r hr b hb
    rcases List.mem_append.1 hr with hr | hr
    · have h1 := h'.rng r hr b hb
      exact ⟨.inr (Nat.le_trans h.size (h1.1.resolve_left fun q => q.elim)), h1.2⟩
    · exact (h.on h'.below).rng r hr b hb
  sep := by
    refine List.pairwise_append.2 ⟨h'.sep, h.sep, fun r hr s hs b hb hb' => ?_⟩
    have h1 := (h'.rng r hr b hb).1.resolve_left fun q => q.elim
    have h2 := (h.rng s hs b hb').2
    omega

/-- Held only if p holds. -/
def rIf (p : Prop) (r : Res) : Res := ⟨r.S, fun w => p → r.φ w, fun w w' h hp hq => r.loc w w' h (hp hq)⟩

theorem Held.toIf {M : Nat → Prop} {w0 : World} {rs : List Res} {r : Res} {w : World} (h : Held M w0 (r :: rs) w) (p : Prop) : Held M w0 (rIf p r :: rs) w :=
  h.turn (rIf p r) (fun hr _ => hr) fun _ h => h

theorem Held.ofIf {M : Nat → Prop} {w0 : World} {rs : List Res} {r : Res} {w : World} {p : Prop} (h : Held M w0 (rIf p r :: rs) w) (hp : p) : Held M w0 (r :: rs) w :=
  h.turn r (fun hr => hr hp) fun _ h => h

theorem Held.noIf {M : Nat → Prop} {w0 : World} {rs : List Res} {w : World} {p : Prop} (h : Held M w0 rs w) {α : Type} {E : Enc α} {A : Option Addr} {c : Nat} {xs : List α} (r : Res) (hp : ¬ p) (hr : r = rSo E Nob A c xs := by rfl) : Held M w0 (rIf p r :: rs) w := by
  subst hr
  exact h.new (Below.refl _ _) (rIf p (rSo E Nob A c xs)) (fun hq => absurd hq hp) fun _ h => h.elim

/-- n cells, as they are. -/
def eRaw (n : Nat) (hn : 0 < n) : Enc (List Value) where
  size := n
  pos := hn
  R := fun _ _ cs x => cs = x ∧ x.length = n ∧ ∀ v ∈ x, v.oneCell' = true
  len := by rintro _ _ _ _ ⟨rfl, h, _⟩; exact h
  keep := fun h _ => h
  more := fun h _ => h
  O := fun _ _ cs x => cs = x ∧ x.length = n ∧ ∀ v ∈ x, v.oneCell' = true
  read := fun h => h
  okeep := fun h _ => h
  omore := fun h _ => h

/-- What the elements own, each for itself. -/
def Els {α : Type} (E : Enc α) (w : World) : (Nat → Prop) → List (List Value × α) → Prop
  | _, [] => True
  | S, p :: ps => ∃ S1 S2 : Nat → Prop, (∀ b, S1 b → S b ∧ ¬ S2 b) ∧ (∀ b, S2 b → S b) ∧ E.O w S1 p.1 p.2 ∧ Els E w S2 ps

theorem Els.keep {α : Type} {E : Enc α} {w w' : World} : ∀ {ps : List (List Value × α)} {S : Nat → Prop}, Els E w S ps → (∀ b, S b → w'.heap[b]? = w.heap[b]?) → Els E w' S ps
  | [], _, _, _ => trivial
  | _ :: _, _, ⟨S1, S2, h1, h2, h3, h4⟩, hk => ⟨S1, S2, h1, h2, E.okeep h3 fun b hb => hk b (h1 b hb).1, Els.keep h4 fun b hb => hk b (h2 b hb)⟩

theorem Els.more {α : Type} {E : Enc α} {w : World} : ∀ {ps : List (List Value × α)} {S S' : Nat → Prop}, Els E w S ps → (∀ b, S b → S' b) → Els E w S' ps
  | [], _, _, _, _ => trivial
  | _ :: _, _, _, ⟨S1, S2, h1, h2, h3, h4⟩, hm => ⟨S1, S2, fun b hb => ⟨hm b (h1 b hb).1, (h1 b hb).2⟩, fun b hb => hm b (h2 b hb), h3, h4⟩

theorem Els.perm {α : Type} {E : Enc α} {w : World} {ps qs : List (List Value × α)} (h : ps.Perm qs) : ∀ S, Els E w S ps → Els E w S qs := by
  induction h with
  | nil => exact fun _ h => h
  | cons p _ ih => rintro S ⟨S1, S2, h1, h2, h3, h4⟩; exact ⟨S1, S2, h1, h2, h3, ih _ h4⟩
  | swap p q ps =>
    rintro S ⟨S1, S2, h1, h2, h3, S3, S4, h5, h6, h7, h8⟩
    refine ⟨S3, fun b => S1 b ∨ S4 b, fun b hb => ⟨h2 b (h5 b hb).1, ?_⟩, ?_, h7, S1, S4, fun b hb => ⟨.inl hb, fun h => (h1 b hb).2 (h6 b h)⟩, fun b hb => .inr hb, h3, h8⟩
    · rintro (h | h)
      · exact (h1 b h).2 (h5 b hb).1
      · exact (h5 b hb).2 h
    · rintro b (h | h)
      · exact (h1 b h).1
      · exact h2 b (h6 b h)
  | trans _ _ i1 i2 => exact fun S h => i2 S (i1 S h)

theorem els_of {α : Type} {E : Enc α} {w : World} : ∀ (ps : List (List Value × α)) (T : Nat → Nat → Prop), (∀ i j b, T i b → T j b → i = j) → (∀ i p, ps[i]? = some p → E.O w (T i) p.1 p.2) → Els E w (fun b => ∃ i, T i b) ps
  | [], _, _, _ => trivial
  | p :: ps, T, hd, h => ⟨T 0, fun b => ∃ i, T (i + 1) b, fun b hb => ⟨⟨0, hb⟩, fun ⟨i, hi⟩ => by have := hd _ _ _ hb hi; omega⟩, fun b ⟨i, hi⟩ => ⟨i + 1, hi⟩, h 0 p rfl, els_of ps (fun i => T (i + 1)) (fun i j b h1 h2 => by have := hd _ _ _ h1 h2; omega) fun i q hq => h (i + 1) q (by simpa using hq)⟩

theorem els_fam {α : Type} {E : Enc α} {w : World} : ∀ (ps : List (List Value × α)) (S : Nat → Prop), Els E w S ps → ∃ T : Nat → Nat → Prop, (∀ i b, T i b → S b) ∧ (∀ i j b, T i b → T j b → i = j) ∧ ∀ i p, ps[i]? = some p → E.O w (T i) p.1 p.2
  | [], _, _ => ⟨fun _ _ => False, fun _ _ h => h.elim, fun _ _ _ h => h.elim, fun i p h => by simp at h⟩
  | p :: ps, S, ⟨S1, S2, h1, h2, h3, h4⟩ => by
    obtain ⟨T, t1, t2, t3⟩ := els_fam ps S2 h4
    refine ⟨fun i => match i with | 0 => S1 | i + 1 => T i, fun i b hb => ?_, fun i j b hi hj => ?_, fun i q hq => ?_⟩
    · cases i with
      | zero => exact (h1 b hb).1
      | succ i => exact h2 b (t1 i b hb)
    · cases i with
      | zero =>
        cases j with
        | zero => rfl
        | succ j => exact absurd (t1 j b hj) (h1 b hi).2
      | succ i =>
        cases j with
        | zero => exact absurd (t1 i b hi) (h1 b hj).2
        | succ j => rw [t2 i j b hi hj]
    · cases i with
      | zero => simp at hq; subst hq; exact h3
      | succ i => exact t3 i q (by simpa using hq)

def rEls {α : Type} (E : Enc α) (S : Nat → Prop) (ps : List (List Value × α)) : Res := ⟨S, fun w => Els E w S ps, fun _ _ h hv => hv.keep h⟩

/-- One part becomes two. -/
theorem Held.cleave {M : Nat → Prop} {w0 : World} {r : Res} {rs : List Res} {w : World} (h : Held M w0 (r :: rs) w) (p q : Res) (hp : p.φ w) (hq : q.φ w) (h1 : ∀ b, p.S b → r.S b) (h2 : ∀ b, q.S b → r.S b) (hd : ∀ b, p.S b → ¬ q.S b) : Held M w0 (p :: q :: rs) w where
  chg := h.chg
  ok := by
    intro x hx
    rcases List.mem_cons.1 hx with rfl | hx
    · exact hp
    rcases List.mem_cons.1 hx with rfl | hx
    · exact hq
    exact h.ok x (by simp [hx])
  rng := by
    intro x hx b hb
    rcases List.mem_cons.1 hx with rfl | hx
    · exact h.rng r (by simp) b (h1 b hb)
    rcases List.mem_cons.1 hx with rfl | hx
    · exact h.rng r (by simp) b (h2 b hb)
    exact h.rng x (by simp [hx]) b hb
  sep := by
    have hs := List.pairwise_cons.1 h.sep
    refine List.pairwise_cons.2 ⟨fun x hx b hb hb' => ?_, List.pairwise_cons.2 ⟨fun x hx b hb hb' => hs.1 x hx b (h2 b hb) hb', hs.2⟩⟩
    rcases List.mem_cons.1 hx with rfl | hx
    · exact hd b hb hb'
    · exact hs.1 x hx b (h1 b hb) hb'

/-- A row taken apart. -/
theorem Held.explode {M : Nat → Prop} {w0 : World} {rs : List Res} {w : World} {α : Type} {E : Enc α} {t : TypeId} {S : Nat → Prop} {A : Option Addr} {c : Nat} {xs : List α} (h : Held M w0 (rVec E t S A c xs :: rs) w) (h1 : ∀ w S es x, E.R w S es x → ∀ v ∈ es, v.oneCell' = true) :
    ∃ css S1 S2, List.length css = xs.length ∧ Held M w0 (rVec (eRaw E.size E.pos) t S1 A c css :: rEls E S2 (css.zip xs) :: rs) w := by
  obtain ⟨css, T, hl, ho, hb, hT, hd, hx⟩ := (h.ok _ List.mem_cons_self : Vec E t w S (.slice A xs.length c) xs)
  refine ⟨css, fun b => Value.ownBlock (.slice A xs.length c) = some b, fun b => ∃ i, T i b, hl, h.cleave _ _ ?_ ?_ (fun b hb' => hb b hb') (fun b ⟨i, hi⟩ => (hT i b hi).1) (fun b hb' ⟨i, hi⟩ => (hT i b hi).2 hb')⟩
  · show Vec (eRaw E.size E.pos) t w _ (.slice A css.length c) css
    rw [hl]
    refine ⟨css, fun _ _ => False, rfl, ?_, fun b hb' => hb', fun _ _ h => h.elim, fun _ _ _ h => h.elim, fun i x hi => ⟨x, hi, rfl, ?_⟩⟩
    · rw [hl]; exact ho
    · have hi' := (List.getElem?_eq_some_iff.1 hi).1
      obtain ⟨es, h2, h3⟩ := hx i xs[i] (List.getElem?_eq_getElem (by omega))
      rw [h2] at hi
      obtain rfl := Option.some.inj hi
      exact ⟨E.len (E.read h3), h1 _ _ _ _ (E.read h3)⟩
  · refine els_of _ T hd fun i p hp => ?_
    rw [List.getElem?_zip_eq_some] at hp
    obtain ⟨es, h2, h3⟩ := hx i p.2 hp.2
    rw [h2] at hp
    rw [← Option.some.inj hp.1]; exact h3

/-- .. and put together again. -/
theorem Held.implode {M : Nat → Prop} {w0 : World} {rs : List Res} {w : World} {α : Type} {E : Enc α} {t : TypeId} {S1 S2 : Nat → Prop} {A : Option Addr} {c : Nat} {css : List (List Value)} {xs : List α} {ps : List (List Value × α)} (h : Held M w0 (rVec (eRaw E.size E.pos) t S1 A c css :: rEls E S2 ps :: rs) w) (hl : css.length = xs.length) (hp : ps.Perm (css.zip xs)) :
    ∃ S, Held M w0 (rVec E t S A c xs :: rs) w := by
  refine ⟨fun b => S1 b ∨ S2 b, h.join _ (fun h1 h2 hd => ?_) fun _ hb => hb⟩
  obtain ⟨css', T', hl', ho, hb, _, _, hx⟩ := (h1 : Vec (eRaw E.size E.pos) t w S1 (.slice A css.length c) css)
  have e : css' = css := List.ext_getElem? fun i => by
    rcases Nat.lt_or_ge i css.length with hi | hi
    · obtain ⟨es, h3, h4⟩ := hx i css[i] (List.getElem?_eq_getElem hi)
      rw [h3, List.getElem?_eq_getElem hi, h4.1]
    · rw [List.getElem?_eq_none (by omega), List.getElem?_eq_none hi]
  subst e
  obtain ⟨T, t1, t2, t3⟩ := els_fam _ _ (Els.perm hp _ (h2 : Els E w S2 ps))
  show Vec E t w _ (.slice A xs.length c) xs
  rw [hl] at ho hb
  refine ⟨css', T, hl, ho, fun b hb' => .inl (hb b hb'), fun i b hi => ⟨.inr (t1 i b hi), fun hb' => hd b (hb b hb') (t1 i b hi)⟩, t2, fun i x hi => ?_⟩
  have hi' := (List.getElem?_eq_some_iff.1 hi).1
  have hc : css'[i]? = some css'[i] := List.getElem?_eq_getElem (by omega)
  exact ⟨css'[i], hc, t3 i (css'[i], x) (List.getElem?_zip_eq_some.2 ⟨hc, hi⟩)⟩

/-- The first element's memory, for itself. -/
theorem Held.peel {M : Nat → Prop} {w0 : World} {rs : List Res} {w : World} {α : Type} {E : Enc α} {S : Nat → Prop} {p : List Value × α} {ps : List (List Value × α)} (h : Held M w0 (rEls E S (p :: ps) :: rs) w) : ∃ S1 S2, Held M w0 (rO E S1 p.1 p.2 :: rEls E S2 ps :: rs) w := by
  obtain ⟨S1, S2, h1, h2, h3, h4⟩ := (h.ok _ List.mem_cons_self : Els E w S (p :: ps))
  exact ⟨S1, S2, h.cleave (rO E S1 p.1 p.2) (rEls E S2 ps) h3 h4 (fun b hb => (h1 b hb).1) h2 fun b hb => (h1 b hb).2⟩

theorem Held.unpeel {M : Nat → Prop} {w0 : World} {rs : List Res} {w : World} {α : Type} {E : Enc α} {S1 S2 : Nat → Prop} {p : List Value × α} {ps : List (List Value × α)} (h : Held M w0 (rO E S1 p.1 p.2 :: rEls E S2 ps :: rs) w) : ∃ S, Held M w0 (rEls E S (p :: ps) :: rs) w :=
  ⟨fun b => S1 b ∨ S2 b, h.join (rEls E _ (p :: ps)) (fun h1 h2 hd => ⟨S1, S2, fun b hb => ⟨.inl hb, hd b hb⟩, fun b hb => .inr hb, h1, h2⟩) fun _ hb => hb⟩

theorem Held.elsPerm {M : Nat → Prop} {w0 : World} {rs : List Res} {w : World} {α : Type} {E : Enc α} {S : Nat → Prop} {ps qs : List (List Value × α)} (h : Held M w0 (rEls E S ps :: rs) w) (hp : ps.Perm qs) : Held M w0 (rEls E S qs :: rs) w :=
  h.turn (rEls E S qs) (fun h1 => Els.perm hp _ h1) fun _ hb => hb

theorem Held.exch {M : Nat → Prop} {w0 : World} {rs : List Res} {w : World} (h : Held M w0 rs w) {i : Nat} {r : Res} (hi : rs[i]? = some r) (r' : Res) (hr : r'.φ w) (hS : ∀ b, r'.S b → r.S b) : Held M w0 (rs.set i r') w :=
  h.mut hi (Chg.refl _ _) r' hr fun b hb => .inl (hS b hb)

theorem Held.elsRd {M : Nat → Prop} {w0 : World} {rs : List Res} {w : World} {α : Type} {E : Enc α} {S : Nat → Prop} {ps : List (List Value × α)} (h : Held M w0 rs w) {i : Nat} (hi : rs[i]? = some (rEls E S ps)) {k : Nat} {es : List Value} {x : α} (hk : ps[k]? = some (es, x)) : E.R w (Old w) es x := by
  obtain ⟨T, t1, t2, t3⟩ := els_fam _ _ (h.get hi : Els E w S ps)
  exact E.more (E.read (t3 k (es, x) hk)) fun b hb => (h.rng _ (List.mem_of_getElem? hi) b (t1 k b hb)).2

theorem raw_vec {n : Nat} {hn : 0 < n} {t : TypeId} {w : World} {S : Nat → Prop} {A : Option Addr} {c : Nat} {css : List (List Value)} (h : Vec (eRaw n hn) t w S (.slice A css.length c) css) (h0 : css ≠ []) :
    ∃ (g : Nat) (cur : Array Value), A = some ⟨g, 0, none⟩ ∧ S g ∧ Blk w g t cur ∧ css.length ≤ c ∧ c ≤ maxLen ∧ cur.size = c * n ∧ cur.toList.take (css.length * n) = css.flatten ∧ (∀ es ∈ css, es.length = n ∧ ∀ v ∈ es, v.oneCell' = true) := by
  obtain ⟨css', T, hl, ho, hb, _, _, hx⟩ := h
  have hx2 : ∀ i (hi : i < css.length), css'[i]? = some css[i] ∧ css[i].length = n ∧ ∀ v ∈ css[i], v.oneCell' = true := fun i hi => by
    obtain ⟨es, h1, h2, h3, h4⟩ := hx i css[i] (List.getElem?_eq_getElem hi)
    subst h2
    exact ⟨h1, h3, h4⟩
  have e : css' = css := List.ext_getElem? fun i => by
    rcases Nat.lt_or_ge i css.length with hi | hi
    · rw [(hx2 i hi).1, List.getElem?_eq_getElem hi]
    · rw [List.getElem?_eq_none (by omega), List.getElem?_eq_none hi]
  subst e
  have hall : ∀ es ∈ css', es.length = n ∧ ∀ v ∈ es, v.oneCell' = true := fun es he => by
    obtain ⟨i, hi, rfl⟩ := List.mem_iff_getElem.1 he
    exact (hx2 i hi).2
  obtain ⟨ho1, ho2⟩ := ho
  rcases ho2 with ⟨h1, h2⟩ | ⟨g, cap, cur, hv, _, hh, h3, h4, h5, h6⟩
  · have hlen : css'.length = 0 := by
      simp only [Value.slice.injEq] at h1
      exact h1.2.1
    exact absurd (List.eq_nil_of_length_eq_zero hlen) h0
  · simp only [Value.slice.injEq] at hv
    obtain ⟨rfl, _, rfl⟩ := hv
    exact ⟨g, cur, rfl, hb g rfl, hh, h3, h4, h5, h6, hall⟩

theorem Held.rawAt {M : Nat → Prop} {w0 : World} {rs : List Res} {w : World} {n : Nat} {hn : 0 < n} {t : TypeId} {S : Nat → Prop} {A : Option Addr} {c : Nat} {css : List (List Value)} (h : Held M w0 rs w) {i : Nat} (hi : rs[i]? = some (rVec (eRaw n hn) t S A c css)) {k : Nat} (hk : k < css.length) : ∃ g, A = some ⟨g, 0, none⟩ := by
  obtain ⟨g, _, hA, _⟩ := raw_vec (h.get hi : Vec (eRaw n hn) t w S (.slice A css.length c) css) (fun e => by rw [e] at hk; exact absurd hk (Nat.not_lt_zero _))
  exact ⟨g, hA⟩

theorem Held.rawLen {M : Nat → Prop} {w0 : World} {rs : List Res} {w : World} {n : Nat} {hn : 0 < n} {t : TypeId} {S : Nat → Prop} {A : Option Addr} {c : Nat} {css : List (List Value)} (h : Held M w0 rs w) {i : Nat} (hi : rs[i]? = some (rVec (eRaw n hn) t S A c css)) : ∀ es ∈ css, es.length = n ∧ ∀ v ∈ es, v.oneCell' = true := by
  intro es he
  obtain ⟨g, _, _, _, _, _, _, _, _, hall⟩ := raw_vec (h.get hi : Vec (eRaw n hn) t w S (.slice A css.length c) css) (fun e => by rw [e] at he; cases he)
  exact hall es he

theorem Held.elsTo {M : Nat → Prop} {w0 : World} {rs : List Res} {w : World} {α : Type} {E : Enc α} {S : Nat → Prop} {ps qs : List (List Value × α)} (h : Held M w0 (rEls E S ps :: rs) w) (hp : ps = qs) : Held M w0 (rEls E S qs :: rs) w := hp ▸ h

theorem Held.oSlice {M : Nat → Prop} {w0 : World} {rs : List Res} {w : World} {α : Type} {E : Enc α} {S : Nat → Prop} {es : List Value} {x : List α} (h : Held M w0 rs w) {i : Nat} (hi : rs[i]? = some (rO (eSl E) S es x)) : ∃ A c, es = [.slice A x.length c] := by
  obtain ⟨A, c, he, _⟩ := (h.get hi : (eSl E).O w S es x)
  exact ⟨A, c, he⟩

theorem vec_ints {t : TypeId} {w : World} {S : Nat → Prop} {v : Value} {xs : List Int} (h : Vec eInt t w S v xs) :
    w.ownsRow 0 t 1 v xs.length (xs.map (Value.int .i64)) ∧ (∀ b, v.ownBlock = some b → S b) ∧ ∀ x ∈ xs, I64 x := by
  obtain ⟨css, T, h1, h2, h3, h4, h5, h6⟩ := h
  have e : css = xs.map fun x => [Value.int .i64 x] := by
    apply List.ext_getElem?
    intro i
    cases hx : xs[i]? with
    | none =>
      have h7 := List.getElem?_eq_none_iff.1 hx
      rw [List.getElem?_eq_none (by omega), List.getElem?_eq_none (by rw [List.length_map]; exact h7)]
    | some x =>
      obtain ⟨es, h7, h8⟩ := h6 i x hx
      obtain ⟨rfl, _⟩ := h8
      rw [h7, List.getElem?_map, hx]; rfl
  have e2 : css.flatten = xs.map (Value.int .i64) := by
    rw [e]
    clear e h1 h2 h3 h4 h5 h6
    induction xs with
    | nil => rfl
    | cons x xs ih => rw [List.map_cons, List.flatten_cons, ih]; rfl
  rw [e2] at h2
  refine ⟨h2, h3, fun x hx => ?_⟩
  obtain ⟨i, hi, rfl⟩ := List.getElem_of_mem hx
  obtain ⟨es, _, h8⟩ := h6 i _ (List.getElem?_eq_getElem hi)
  exact h8.2

theorem vec_ofInts {t : TypeId} {w : World} {S : Nat → Prop} {v : Value} {xs : List Int} (h : w.ownsRow 0 t 1 v xs.length (xs.map (Value.int .i64))) (hS : ∀ b, v.ownBlock = some b → S b) (hI : ∀ x ∈ xs, I64 x) : Vec eInt t w S v xs := by
  refine ⟨xs.map fun x => [Value.int .i64 x], fun _ _ => False, List.length_map _, ?_, hS, fun _ _ h => h.elim, fun _ _ _ h => h.elim, fun i x hx => ⟨[.int .i64 x], by rw [List.getElem?_map, hx]; rfl, rfl, hI x (List.mem_of_getElem? hx)⟩⟩
  have e2 : (xs.map fun x => [Value.int .i64 x]).flatten = xs.map (Value.int .i64) := by
    clear h hS hI
    induction xs with
    | nil => rfl
    | cons x xs ih => rw [List.map_cons, List.flatten_cons, ih]; rfl
  rw [e2]; exact h

theorem el_vec {α : Type} {E : Enc α} {t : TypeId} {S : Nat → Prop} {A : Option Addr} {c : Nat} {xs : List α} {M : Nat → Prop} {w0 w : World} {rs : List Res} {i : Nat} (h : Held M w0 rs w) (hi : rs[i]? = some (rVec E t S A c xs)) {k : Nat} (hk : k < xs.length) : ∃ b, A = some ⟨b, 0, none⟩ := by
  have hv : Vec E t w S (.slice A xs.length c) xs := h.get hi
  obtain ⟨css, T, h1, h2, _⟩ := hv
  rcases h2.2 with ⟨_, h0⟩ | ⟨g, cap, cur, e, _⟩
  · omega
  · cases e; exact ⟨g, rfl⟩

theorem c_vecI {M : Nat → Prop} {w0 : World} {rs : List Res} {t : TypeId} {S : Nat → Prop} {b off c k : Nat} {xs : List Int} (i : Nat) (hi : rs[i]? = some (rVec eInt t S (some ⟨b, off, none⟩) c xs)) (hk : k < xs.length) : ∀ w, Held M w0 rs w → w.cell? ⟨b, off + k * 1, none⟩ = some (.int .i64 xs[k]) := fun w h => by
  obtain ⟨b', off', es, hA, _, hR, hc⟩ := (h.vecSl hi).at1 rfl hk
  simp only [Option.some.injEq, Addr.mk.injEq, and_true] at hA
  obtain ⟨rfl, rfl⟩ := hA
  obtain ⟨rfl, _⟩ := hR
  rw [Nat.mul_one]; exact hc _ rfl

theorem c_vecV {M : Nat → Prop} {w0 : World} {rs : List Res} {t : TypeId} {S : Nat → Prop} {b off c k : Nat} {xs : List Int} {y : Int} (i : Nat) (hi : rs[i]? = some (rVec eInt t S (some ⟨b, off, none⟩) c xs)) (hk : k < xs.length) (hy : xs[k] = y) : ∀ w, Held M w0 rs w → w.cell? ⟨b, off + k * 1, none⟩ = some (.int .i64 y) := fun w h => by
  rw [← hy]; exact c_vecI i hi hk w h

theorem i_vecI {M : Nat → Prop} {w0 w : World} {rs : List Res} {t : TypeId} {S : Nat → Prop} {A : Option Addr} {c k : Nat} {xs : List Int} (h : Held M w0 rs w) (i : Nat) (hi : rs[i]? = some (rVec eInt t S A c xs)) (hk : k < xs.length) : I64 xs[k] :=
  (vec_ints (h.get hi)).2.2 _ (List.getElem_mem hk)

/-- A store into a row of numbers that may grow. -/
theorem st_storeV {P : Program} {ops : Array Oper} {Q : Exit → Act → World → Prop} {a : Act} {w : World} {K : Act → World → Prop} {n : Nat} {L : List (Nat × Value)} {M : Nat → Prop} {w0 : World} {rs : List Res} {t e : TypeId} {z0 : Value} {x y : Operand} {S : Nat → Prop} {b off c k : Nat} {xs : List Int} {m : Int} {ty : TypeId} {pos : String} {af : Array Edge} {gd : Option (Nat × Bool)} (i : Nat) (hE : Env n L a) (hH : Held M w0 rs w) (ht : TV P t false [z0]) (hx : ev L x = some (.pointer (some ⟨b, off + k * 1, none⟩))) (hy : ev L y = some (.int .i64 m)) (hi : rs[i]? = some (rVec eInt e S (some ⟨b, off, none⟩) c xs)) (hk : k < xs.length) (hm : I64 m) (hw : Region.wanted ⟨none, .store t x y, ty, pos, af, gd⟩ (yielded ops a.tmps) = true)
    (kk : ∀ w', Held M w0 (rs.set i (rVec eInt e S (some ⟨b, off, none⟩) c (xs.set k m))) w' → K a w') : Stp P ops Q ⟨none, .store t x y, ty, pos, af, gd⟩ a w K := by
  have hv : Vec eInt e w S (.slice (some ⟨b, off, none⟩) xs.length c) xs := hH.get hi
  have hc := c_vecI (k := k) i hi hk w hH
  rw [Nat.mul_one] at hc
  obtain ⟨h1, h2, h3⟩ := vec_ints hv
  have h4 := h1.2
  rcases h4 with ⟨h0, _⟩ | ⟨g, cap, cur, he, hg, hh, hn, hcap, hs, ht'⟩
  · cases h0
  · simp only [Value.slice.injEq, Option.some.injEq, Addr.mk.injEq, and_true, true_and] at he
    obtain ⟨⟨rfl, rfl⟩, rfl⟩ := he
    have hB : Blk w b e cur := hh
    have hf : w.frozen? ⟨b, 0 + k, none⟩ = false := hB.frozen _
    have hlt : k < cur.size := by omega
    have hB2 : Blk (w.setCell ⟨b, 0 + k, none⟩ (.int .i64 m)) b e (cur.setIfInBounds (0 + k) (.int .i64 m)) := hB.set (0 + k) (.int .i64 m)
    have hnew : Vec eInt e (w.setCell ⟨b, 0 + k, none⟩ (.int .i64 m)) S (.slice (some ⟨b, 0, none⟩) (xs.set k m).length c) (xs.set k m) := by
      refine vec_ofInts ⟨by rw [List.length_map, Nat.mul_one], .inr ⟨b, c, _, rfl, Nat.zero_le _, hB2, by rw [List.length_set]; exact hn, hcap, by simpa using hs, ?_⟩⟩ h2 fun x hx' => ?_
      · rw [List.length_set, List.map_set, ← ht', Nat.zero_add, Array.toList_setIfInBounds, List.take_set]
      · rcases List.mem_or_eq_of_mem_set hx' with h5 | h5
        · exact h3 x h5
        · rw [h5]; exact hm
    have h6 : Held M w0 (rs.set i (rVec eInt e S (some ⟨b, 0, none⟩) c (xs.set k m))) (w.setCell ⟨b, 0 + k, none⟩ (.int .i64 m)) := hH.mut hi ((Chg.refl _ _).set (by exact h2 b rfl) _) (rVec eInt e S (some ⟨b, 0, none⟩) c (xs.set k m)) hnew fun b hb => .inl hb
    refine st_skip hw ?_ rfl (kk _ h6)
    obtain ⟨ii, z, e1, _, e3, _⟩ := ht.info
    rw [Nat.mul_one] at hx
    simp only [execOp, hE.ev hx, hE.ev hy, Instr.storeAt, Instr.sureAddr, storeVar, sizeOf, typeInfo, Sem.run_bind, Sem.run_pure, Result.andThen_ok, run_program, e1]
    have e3' : ii.size = 1 := e3
    rw [Nat.zero_add] at hc hf
    have hst : (Go.store ⟨b, k, none⟩ (.int .i64 m)).run P w = .ok () (w.setCell ⟨b, k, none⟩ (.int .i64 m)) := by simp [Go.store, Sem.run, hc, hf]
    simp [Value.cells, e3', storeCells, add_none, hst]

/-- A builder in block b, its own blocks in S, holding the bytes l. -/
def BldIn (T e : TypeId) (B b : Nat) (S : Nat → Prop) (l : List UInt8) (w : World) : Prop :=
  Lib.IsBuilderF T e B b (Lib.byteCells l) w ∧ S b ∧ ∀ p v g, w.heap[b]? = some (.cells #[p, v] T (0, 0)) → v.ownBlock = some g → S g

theorem BldIn.loc {T e : TypeId} {B b : Nat} {S : Nat → Prop} {l : List UInt8} {w w' : World} (hs : ∀ k, S k → w'.heap[k]? = w.heap[k]?) (h : BldIn T e B b S l w) : BldIn T e B b S l w' := by
  obtain ⟨h1, h2, h3⟩ := h
  have key : ∀ p, Lib.BuilderAtF T e B b p (Lib.byteCells l) w → Lib.BuilderAtF T e B b p (Lib.byteCells l) w' := by
    rintro p ⟨hB, v, hb, hown, hne⟩
    refine ⟨hB, v, (hs b h2).trans hb, ⟨hown.1, ?_⟩, hne⟩
    rcases hown.2 with hn | ⟨g, cap, cur, fz, rfl, hbg, hg, rest⟩
    · exact .inl hn
    · exact .inr ⟨g, cap, cur, fz, rfl, hbg, (hs g (h3 _ _ g hb (by simp [Value.ownBlock]))).trans hg, rest⟩
  refine ⟨?_, h2, fun p v g hb hv => h3 p v g ((hs b h2).symm.trans hb) hv⟩
  rcases h1 with h | h
  · exact .inl (key _ h)
  · exact .inr (key _ h)

def rBldT (T e : TypeId) (B b : Nat) (S : Nat → Prop) (l : List UInt8) : Res := ⟨S, BldIn T e B b S l, fun _ _ hs h => BldIn.loc hs h⟩

theorem BldIn.mk {T e : TypeId} {B b : Nat} {l : List UInt8} {w : World} (h : Lib.IsBuilderF T e B b (Lib.byteCells l) w) : BldIn T e B b (Iv B w.heap.size) l w := by
  have hb : B ≤ b ∧ b < w.heap.size := by
    rcases h with h | h
    · exact ⟨h.1, h.lt⟩
    · exact ⟨h.1, h.lt⟩
  refine ⟨h, hb, fun p v g hh hv => ?_⟩
  have key : ∀ q, Lib.BuilderAtF T e B b q (Lib.byteCells l) w → Iv B w.heap.size g := by
    rintro q ⟨_, v', hb', hown, _⟩
    rw [hh] at hb'
    simp only [Option.some.injEq, Obj.cells.injEq, and_true] at hb'
    have e2 : v = v' := by
      have := congrArg (fun a : Array Value => a[1]?) hb'
      simpa using this
    subst e2
    exact hown.lt g hv
  rcases h with h | h
  · exact key _ h
  · exact key _ h

theorem Held.bldCall {T e : TypeId} {w0 w w' : World} {b : Nat} {S : Nat → Prop} {l l' : List UInt8} (h : Held Nob w0 [rBldT T e w0.heap.size b S l] w) (hb : Below w0.heap.size w w') (hi : Lib.IsBuilderF T e w0.heap.size b (Lib.byteCells l') w') : ∃ S', Held Nob w0 [rBldT T e w0.heap.size b S' l'] w' := by
  refine ⟨Iv w0.heap.size w'.heap.size, ?_⟩
  have hb2 : Below w0.heap.size w0 w' := h.below.trans hb
  exact ⟨.of_below hb2, by intro r hr; obtain rfl := List.mem_singleton.1 hr; exact BldIn.mk hi, by intro r hr; obtain rfl := List.mem_singleton.1 hr; exact fun k hk => ⟨.inr hk.1, hk.2⟩, List.pairwise_singleton _ _⟩

theorem Held.toBld {T e : TypeId} {w0 w : World} {b : Nat} {rs : List Res} (h : Held Nob w0 (rBlk b T [.pointer none, .slice none 0 0] :: rs) w) : ∃ S, Held Nob w0 [rBldT T e w0.heap.size b S []] w := by
  have hB : Blk w b T #[.pointer none, .slice none 0 0] := h.ok _ List.mem_cons_self
  have hr := h.rng _ (List.mem_cons_self) b rfl
  have hle : w0.heap.size ≤ b := hr.1.resolve_left fun x => x.elim
  have hi : Lib.IsBuilderF T e w0.heap.size b (Lib.byteCells []) w := .inl ⟨hle, _, hB, by simpa [Lib.byteCells] using World.ownsRowF_nil w w0.heap.size e 1, by simp [Value.ownBlock]⟩
  refine ⟨Iv w0.heap.size w.heap.size, ⟨h.chg, ?_, ?_, List.pairwise_singleton _ _⟩⟩
  · intro r hr; obtain rfl := List.mem_singleton.1 hr; exact BldIn.mk hi
  · intro r hr; obtain rfl := List.mem_singleton.1 hr; exact fun k hk => ⟨.inr hk.1, hk.2⟩

theorem Held.isBld {T e : TypeId} {M : Nat → Prop} {w0 w : World} {B b : Nat} {S : Nat → Prop} {l : List UInt8} {rs : List Res} (h : Held M w0 (rBldT T e B b S l :: rs) w) : Lib.IsBuilderF T e B b (Lib.byteCells l) w := (h.ok _ List.mem_cons_self : BldIn T e B b S l w).1

theorem tv_2 : TV Try.prog 2 false [.int .i64 0] := by
  obtain ⟨i, h1, h2, h3⟩ := tv_parts (show (Try.prog.info? 2).map (fun i => (i.zero, i.size)) = some (some (.int .i64 0), 1) from by kernel_rfl)
  exact ⟨⟨_, Try.underlying2, rfl⟩, i, _, h1, h2, h3, rfl⟩

theorem tv_4 : TV Try.prog 4 false [.bool false] := by
  obtain ⟨i, h1, h2, h3⟩ := tv_parts (show (Try.prog.info? 4).map (fun i => (i.zero, i.size)) = some (some (.bool false), 1) from by kernel_rfl)
  exact ⟨⟨_, Try.underlying4, rfl⟩, i, _, h1, h2, h3, rfl⟩

theorem tv_36 : TV Try.prog 36 false [.slice none 0 0] := by
  obtain ⟨i, h1, h2, h3⟩ := tv_parts (show (Try.prog.info? 36).map (fun i => (i.zero, i.size)) = some (some (.slice none 0 0), 1) from by kernel_rfl)
  exact ⟨⟨_, Try.underlying36, rfl⟩, i, _, h1, h2, h3, rfl⟩

theorem tv_37 : TV Try.prog 37 false [.slice none 0 0] := by
  obtain ⟨i, h1, h2, h3⟩ := tv_parts (show (Try.prog.info? 37).map (fun i => (i.zero, i.size)) = some (some (.slice none 0 0), 1) from by kernel_rfl)
  exact ⟨⟨_, Try.underlying37, rfl⟩, i, _, h1, h2, h3, rfl⟩

theorem tv_81 : TV Try.prog 81 true [.int .i64 0, .int .i64 0, .int .i64 0, .int .i64 0] := by
  obtain ⟨i, h1, h2, h3⟩ := tv_parts (show (Try.prog.info? 81).map (fun i => (i.zero, i.size)) = some (some (.agg #[.int .i64 0, .int .i64 0, .int .i64 0, .int .i64 0]), 4) from by kernel_rfl)
  exact ⟨⟨_, Try.underlying81, rfl⟩, i, _, h1, h2, h3, rfl⟩

theorem tv_86 : TV Try.prog 86 false [.nilFunc] := by
  obtain ⟨i, h1, h2, h3⟩ := tv_parts (show (Try.prog.info? 86).map (fun i => (i.zero, i.size)) = some (some (.nilFunc), 1) from by kernel_rfl)
  exact ⟨⟨_, Try.underlying86, rfl⟩, i, _, h1, h2, h3, rfl⟩

theorem tv_120 : TV Try.prog 120 false [.slice none 0 0] := by
  obtain ⟨i, h1, h2, h3⟩ := tv_parts (show (Try.prog.info? 120).map (fun i => (i.zero, i.size)) = some (some (.slice none 0 0), 1) from by kernel_rfl)
  exact ⟨⟨_, Try.underlying120, rfl⟩, i, _, h1, h2, h3, rfl⟩

theorem tv_121 : TV Try.prog 121 false [.nilFunc] := by
  obtain ⟨i, h1, h2, h3⟩ := tv_parts (show (Try.prog.info? 121).map (fun i => (i.zero, i.size)) = some (some (.nilFunc), 1) from by kernel_rfl)
  exact ⟨⟨_, Try.underlying121, rfl⟩, i, _, h1, h2, h3, rfl⟩

theorem ts_36 : TSl Try.prog 36 81 4 32 := by
  obtain ⟨i, h1, h2, h3, h4⟩ := ts_parts (show (Try.prog.info? 81).map (fun i => (i.zero, i.size, i.bytes)) = some (some (.agg #[.int .i64 0, .int .i64 0, .int .i64 0, .int .i64 0]), 4, 32) from by kernel_rfl)
  exact ⟨Try.underlying36, i, _, h1, h2, h3, h4, rfl⟩

theorem ts_37 : TSl Try.prog 37 2 1 8 := by
  obtain ⟨i, h1, h2, h3, h4⟩ := ts_parts (show (Try.prog.info? 2).map (fun i => (i.zero, i.size, i.bytes)) = some (some (.int .i64 0), 1, 8) from by kernel_rfl)
  exact ⟨Try.underlying37, i, _, h1, h2, h3, h4, rfl⟩

theorem fa_81_0 : ∀ b o w, (Instr.fieldAt 81 (.pointer (some ⟨b, o, none⟩)) 0).run Try.prog w = .ok (.pointer (some ⟨b, o + 0, none⟩)) w := by
  obtain ⟨i, z, h1, _, h3, _⟩ := tv_2.info
  exact fun b o w => fieldAt_of (f := 0) Try.underlying81 rfl h1 (by rw [h3]; decide) b o w

theorem fa_81_2 : ∀ b o w, (Instr.fieldAt 81 (.pointer (some ⟨b, o, none⟩)) 2).run Try.prog w = .ok (.pointer (some ⟨b, o + 2, none⟩)) w := by
  obtain ⟨i, z, h1, _, h3, _⟩ := tv_2.info
  exact fun b o w => fieldAt_of (f := 2) Try.underlying81 rfl h1 (by rw [h3]; decide) b o w

theorem fa_81_3 : ∀ b o w, (Instr.fieldAt 81 (.pointer (some ⟨b, o, none⟩)) 3).run Try.prog w = .ok (.pointer (some ⟨b, o + 3, none⟩)) w := by
  obtain ⟨i, z, h1, _, h3, _⟩ := tv_2.info
  exact fun b o w => fieldAt_of (f := 3) Try.underlying81 rfl h1 (by rw [h3]; decide) b o w

theorem ts_120 : TSl Try.prog 120 4 1 1 := by
  obtain ⟨i, h1, h2, h3, h4⟩ := ts_parts (show (Try.prog.info? 4).map (fun i => (i.zero, i.size, i.bytes)) = some (some (.bool false), 1, 1) from by kernel_rfl)
  exact ⟨Try.underlying120, i, _, h1, h2, h3, h4, rfl⟩

theorem en_16 : ∀ args w, (callFunc 16 args).run Try.prog w = .ok (.enter 16 args) w := enters_of Try.func16 (by kernel_rfl) rfl

theorem en_17 : ∀ args w, (callFunc 17 args).run Try.prog w = .ok (.enter 17 args) w := enters_of Try.func17 (by kernel_rfl) rfl

theorem en_18 : ∀ args w, (callFunc 18 args).run Try.prog w = .ok (.enter 18 args) w := enters_of Try.func18 (by kernel_rfl) rfl

theorem en_19 : ∀ args w, (callFunc 19 args).run Try.prog w = .ok (.enter 19 args) w := enters_of Try.func19 (by kernel_rfl) rfl

theorem en_20 : ∀ args w, (callFunc 20 args).run Try.prog w = .ok (.enter 20 args) w := enters_of Try.func20 (by kernel_rfl) rfl

theorem en_21 : ∀ args w, (callFunc 21 args).run Try.prog w = .ok (.enter 21 args) w := enters_of Try.func21 (by kernel_rfl) rfl

theorem en_22 : ∀ args w, (callFunc 22 args).run Try.prog w = .ok (.enter 22 args) w := enters_of Try.func22 (by kernel_rfl) rfl

theorem en_23 : ∀ args w, (callFunc 23 args).run Try.prog w = .ok (.enter 23 args) w := enters_of Try.func23 (by kernel_rfl) rfl

theorem en_24 : ∀ args w, (callFunc 24 args).run Try.prog w = .ok (.enter 24 args) w := enters_of Try.func24 (by kernel_rfl) rfl

theorem en_25 : ∀ args w, (callFunc 25 args).run Try.prog w = .ok (.enter 25 args) w := enters_of Try.func25 (by kernel_rfl) rfl

theorem en_48 : ∀ args w, (callFunc 48 args).run Try.prog w = .ok (.enter 48 args) w := enters_of Try.func48 (by kernel_rfl) rfl

theorem en_49 : ∀ args w, (callFunc 49 args).run Try.prog w = .ok (.enter 49 args) w := enters_of Try.func49 (by kernel_rfl) rfl

theorem en_51 : ∀ args w, (callFunc 51 args).run Try.prog w = .ok (.enter 51 args) w := enters_of Try.func51 (by kernel_rfl) rfl

theorem en_52 : ∀ args w, (callFunc 52 args).run Try.prog w = .ok (.enter 52 args) w := enters_of Try.func52 (by kernel_rfl) rfl

theorem en_53 : ∀ args w, (callFunc 53 args).run Try.prog w = .ok (.enter 53 args) w := enters_of Try.func53 (by kernel_rfl) rfl

theorem en_54 : ∀ args w, (callFunc 54 args).run Try.prog w = .ok (.enter 54 args) w := enters_of Try.func54 (by kernel_rfl) rfl

theorem en_55 : ∀ args w, (callFunc 55 args).run Try.prog w = .ok (.enter 55 args) w := enters_of Try.func55 (by kernel_rfl) rfl

theorem en_56 : ∀ args w, (callFunc 56 args).run Try.prog w = .ok (.enter 56 args) w := enters_of Try.func56 (by kernel_rfl) rfl

theorem en_57 : ∀ args w, (callFunc 57 args).run Try.prog w = .ok (.enter 57 args) w := enters_of Try.func57 (by kernel_rfl) rfl

theorem en_87 : ∀ args w, (callFunc 87 args).run Try.prog w = .ok (.enter 87 args) w := enters_of Try.func87 (by kernel_rfl) rfl

theorem en_88 : ∀ args w, (callFunc 88 args).run Try.prog w = .ok (.enter 88 args) w := enters_of Try.func88 (by kernel_rfl) rfl

theorem en_92 : ∀ args w, (callFunc 92 args).run Try.prog w = .ok (.enter 92 args) w := enters_of Try.func92 (by kernel_rfl) rfl

theorem en_93 : ∀ args w, (callFunc 93 args).run Try.prog w = .ok (.enter 93 args) w := enters_of Try.func93 (by kernel_rfl) rfl

theorem hmix : Try.prog.follows .mixedOrders = true := by kernel_rfl

theorem ct_L_len (xs : List Int) : ct_L xs = xs.length := by
  have := cntL_const ct_i 1 xs fun _ => rfl
  unfold ct_L; omega

def encInstr (x : tInstr) : List Value := [.int .i64 x.1, .int .i64 x.2.1, .int .i64 x.2.2.1, .int .i64 x.2.2.2]

theorem flat_Instr : Flat eInstr encInstr :=
  ⟨fun h => by
    obtain ⟨rfl, h0, h1, h2, h3⟩ := shape_Instr h
    exact ⟨rfl, fun _ => (oPrI h0 (oPrI h1 (oPrI h2 (oI h3))))⟩, fun x u hu => by
    simp only [encInstr, List.mem_cons, List.not_mem_nil, or_false] at hu
    rcases hu with rfl | rfl | rfl | rfl <;> rfl⟩

theorem elem_Instr : Elem Try.prog eInstr 36 81 32 := by
  obtain ⟨i0, hi0, hz0, hz1, hz2⟩ := info_parts info_impl_Instr
  exact ⟨Try.underlying36, i0, _, hi0, hz0, hz1, hz2, rfl⟩

set_option maxHeartbeats 400000 in
theorem Clone_Instr (A : Option Addr) (c : Nat) (xs : List tInstr) (w : World) (h : Sl eInstr w (Old w) A c xs) (hsm : xs.length ≤ 1000000000000) :
    Calls Try.prog 93 #[.slice A xs.length c] w fun e w' => ∃ A' c', e = .returned (.slice A' xs.length c') ∧ So eInstr w' (Fr w w') A' c' xs ∧ Below w.heap.size w w' := by
  have q22 : ∀ (w : World) (a : Option Addr) (n c n' c' : Nat), (binOp .eql 36 (.slice a n c) (.slice none n' c')).run Try.prog w = .ok (.bool a.isNone) w := fun w a n c n' c' => Lib.run_eql_slice_nil w _ _ a n c n' c' Try.underlying36
  cases A with
  | none =>
    have hx : xs = [] := Classical.byContradiction fun hn => by
      obtain ⟨b, off, hA, _⟩ := h.2.2 hn
      cases hA
    subst hx
    clear h
    go_enter Try.func93, Try.ntmps93
    go_wp2
    go_ret
    exact ⟨none, 0, rfl, So.nil (Nat.zero_le _), Below.refl _ _⟩
  | some ad =>
    have H := Lib.hid (h.on (below_alloc (Below.refl _ _) (.cells #[] 81))); clear h
    go_enter Try.func93, Try.ntmps93
    go_wp2_with (at_builtin; refine wpList_append_row flat_Instr elem_Instr rfl _ _ rfl (base := w.heap.size) rfl (Row.empty (Nat.le_refl _)) rfl H.out (by simp only [List.length_nil]; unfold maxLen; omega) (by simp only [List.length_nil]; omega) (by simp) ?_)
    intro v' w1 hrow hgrow hat
    try rw [List.nil_append] at hrow
    obtain ⟨A', c', rfl, hso⟩ := hrow.so
    have HO := Lib.hid hso
    have HL : Hid (Below w.heap.size w w1) := ((Below.refl _ w).alloc (Nat.le_refl _) _).grown hgrow (by simp) (by intro k hk; simp [Value.ownBlock] at hk; omega)
    clear hrow hgrow hat hso
    go_wp2
    go_ret
    exact ⟨A', c', rfl, HO.out, HL.out⟩

def isReg (r : Int) : Bool := withinB r 0 23

def validInstr (x : tInstr) (n : Int) : Bool :=
  isReg x.2.1 && withinB x.2.2.1 0 n && (if x.1 = 0 then x.2.2.2 == 0 else if x.1 = 1 then withinB x.2.2.2 0 n else false)

theorem impl_isRegister (r : Int) (w : World) : Calls Try.prog 112 #[.int .i64 r] w fun e w' => e = .returned (.bool (isReg r)) ∧ w = w' := by
  unfold isReg
  go_enter Try.func112, Try.ntmps112
  go_wp2_with (go_at_call 65; refine (impl_within _ _ _ _).mono ?_; rintro e w' ⟨rfl, rfl⟩)
  go_ret
  exact ⟨rfl, rfl⟩

theorem spec_l07Register (r : Int) (w : World) : Calls Try.prog 86 #[.int .i64 r] w fun e w' => e = .returned (.bool (isReg r)) ∧ w = w' := by
  unfold isReg
  go_enter Try.func86, Try.ntmps86
  go_wp2_with (go_at_call 61; refine (spec_l00In _ _ _ _).mono ?_; rintro e w' ⟨rfl, rfl⟩)
  go_ret
  exact ⟨rfl, rfl⟩

set_option maxHeartbeats 400000 in
theorem impl_validInstr (x : tInstr) (n : Int) (w : World) :
    Calls Try.prog 91 #[.agg #[.int .i64 x.1, .int .i64 x.2.1, .int .i64 x.2.2.1, .int .i64 x.2.2.2], .int .i64 n] w fun e w' => e = .returned (.bool (validInstr x n)) ∧ Below w.heap.size w w' := by
  obtain ⟨kd, r, t, el⟩ := x
  cases h1 : isReg r
  · rw [show validInstr (kd, r, t, el) n = false from by unfold validInstr; simp [h1]]
    go_enter Try.func91, Try.ntmps91
    go_wp2_with (first | (go_at_call 112; refine (impl_isRegister _ _).mono ?_; rintro e w' ⟨rfl, rfl⟩; rw [h1]) | (go_at_call 65; refine (impl_within _ _ _ _).mono ?_; rintro e w' ⟨rfl, rfl⟩; (try rw [h2])))
    go_ret
    exact ⟨rfl, by go_grown⟩
  cases h2 : withinB t 0 n
  · rw [show validInstr (kd, r, t, el) n = false from by unfold validInstr; simp [h1, h2]]
    go_enter Try.func91, Try.ntmps91
    go_wp2_with (first | (go_at_call 112; refine (impl_isRegister _ _).mono ?_; rintro e w' ⟨rfl, rfl⟩; rw [h1]) | (go_at_call 65; refine (impl_within _ _ _ _).mono ?_; rintro e w' ⟨rfl, rfl⟩; (try rw [h2])))
    go_ret
    exact ⟨rfl, by go_grown⟩
  by_cases k0 : kd = 0
  · have k0' : (kd == 0) = true := by simp [k0]
    rw [show validInstr (kd, r, t, el) n = (el == 0) from by unfold validInstr; simp [h1, h2, k0]]
    go_enter Try.func91, Try.ntmps91
    go_wp2_with (first | (go_at_call 112; refine (impl_isRegister _ _).mono ?_; rintro e w' ⟨rfl, rfl⟩; rw [h1]) | (go_at_call 65; refine (impl_within _ _ _ _).mono ?_; rintro e w' ⟨rfl, rfl⟩; (try rw [h2])))
    go_ret
    exact ⟨rfl, by go_grown⟩
  have k0' : (kd == 0) = false := by simp [k0]
  by_cases k1 : kd = 1
  · have k1' : (kd == 1) = true := by simp [k1]
    rw [show validInstr (kd, r, t, el) n = withinB el 0 n from by unfold validInstr; simp [h1, h2, k1]]
    go_enter Try.func91, Try.ntmps91
    go_wp2_with (first | (go_at_call 112; refine (impl_isRegister _ _).mono ?_; rintro e w' ⟨rfl, rfl⟩; rw [h1]) | (go_at_call 65; refine (impl_within _ _ _ _).mono ?_; rintro e w' ⟨rfl, rfl⟩; (try rw [h2])))
    go_ret
    exact ⟨rfl, by go_grown⟩
  have k1' : (kd == 1) = false := by simp [k1]
  rw [show validInstr (kd, r, t, el) n = false from by unfold validInstr; simp [h1, h2, k0, k1]]
  go_enter Try.func91, Try.ntmps91
  go_wp2_with (first | (go_at_call 112; refine (impl_isRegister _ _).mono ?_; rintro e w' ⟨rfl, rfl⟩; rw [h1]) | (go_at_call 65; refine (impl_within _ _ _ _).mono ?_; rintro e w' ⟨rfl, rfl⟩; (try rw [h2])))
  go_ret
  exact ⟨rfl, by go_grown⟩

theorem enters_ValidProgram1 : ∀ args w, (callFunc 90 args).run Try.prog w = .ok (.enter 90 args) w := enters_of Try.func90 (by kernel_rfl) rfl

theorem impl_ValidProgram1 (es : List Value) (x : tInstr) (w : World) (h : eInstr.R w (Old w) es x) (B : Nat) (A : Option Addr) (n c : Nat) (hB : w.cell? ⟨B, 0, none⟩ = some (.slice A n c)) :
    Calls Try.prog 90 #[.agg es.toArray, .pointer (some ⟨B, 0, none⟩)] w fun e w' => e = .returned (.bool (!validInstr x n)) ∧ Below w.heap.size w w' := by
  obtain ⟨rfl, _, _, _, _⟩ := shape_Instr h
  clear h
  have hlt : B < w.heap.size := World.block_lt_of_cell? w _ hB
  go_enter Try.func90, Try.ntmps90
  go_wp2_with fail
  go_region_held3 (fun w' => w'.cell? ⟨w.heap.size, 0, none⟩ = some (.int .i64 x.1) ∧ w'.cell? ⟨w.heap.size, 1, none⟩ = some (.int .i64 x.2.1) ∧ w'.cell? ⟨w.heap.size, 2, none⟩ = some (.int .i64 x.2.2.1) ∧ w'.cell? ⟨w.heap.size, 3, none⟩ = some (.int .i64 x.2.2.2) ∧ w'.cell? ⟨B, 0, none⟩ = some (.slice A n c)) (first | (simp [go_sem, World.cell?_alloc_past, hB, hlt]; done) | (obtain ⟨hc, hf⟩ := bcell hb; simp [hc, go_sem, World.cell?_alloc_past, hB, hlt, Nat.lt_succ_of_lt hlt]))
    (first
      | (go_at_call 53; refine (impl_size_Instr _ _ _ _).mono ?_; rintro e w' ⟨rfl, rfl⟩)
      | (go_at_call 91; refine (impl_validInstr x _ _).mono ?_; rintro e w' ⟨rfl, hb⟩))
  go_wp2
  go_ret
  exact ⟨rfl, below_trans ((Below.refl _ _).alloc (Nat.le_refl _) _).drew hb⟩

def validProg (p : List tInstr) : Bool := decide (p.length ≤ 400) && !p.any fun x => !validInstr x p.length

set_option maxHeartbeats 400000 in
theorem impl_ValidProgram (A : Option Addr) (c : Nat) (xs : List tInstr) (w : World) (h : Sl eInstr w (Old w) A c xs) :
    Calls Try.prog 51 #[.slice A xs.length c] w fun e w' => e = .returned (.bool (validProg xs)) ∧ Below w.heap.size w w' := by
  have hW : Below w.heap.size w (w.alloc (.cells #[.slice A xs.length c] 36)) := (Below.refl _ _).alloc (Nat.le_refl _) _
  have hI := Lib.hid (ContainsFunc_Instr (fun x => !validInstr x xs.length) 90 #[.pointer (some ⟨w.heap.size, 0, none⟩)] A c xs _ (h.on hW) enters_ValidProgram1 (fun W x es _ hb hR => impl_ValidProgram1 es x W hR w.heap.size A xs.length c (by
    rw [hb.cell (p := ⟨w.heap.size, 0, none⟩) (by simp)]; simp [go_sem])))
  have HW := Lib.hid hW; clear hW h
  by_cases h1 : xs.length ≤ 400
  · have h1' : decide ((xs.length : Int) ≤ 400) = true := by simp; omega
    rw [show validProg xs = !xs.any (fun x => !validInstr x xs.length) from by unfold validProg; simp [h1]]
    go_enter Try.func51, Try.ntmps51
    go_wp2_with (go_at_call 89; refine hI.out.mono ?_; rintro e w' ⟨rfl, hb⟩)
    go_ret
    exact ⟨rfl, below_trans HW.out hb⟩
  · have h1' : decide ((xs.length : Int) ≤ 400) = false := by simp; omega
    rw [show validProg xs = false from by unfold validProg; simp [h1]]
    go_enter Try.func51, Try.ntmps51
    go_wp2_with fail
    go_ret
    exact ⟨rfl, HW.out⟩

theorem validInstr_eq (kd r t el : Int) (n : Nat) : validInstr (kd, r, t, el) n = (isReg r && withinB t 0 n && ((kd == 0 || kd == 1) && (kd != 0 || el == 0) && withinB el 0 n)) := by
  unfold validInstr
  by_cases k0 : kd = 0
  · subst k0
    by_cases e0 : el = 0
    · subst e0; simp [withinB]
    · have e0' : (el == 0) = false := by simp [e0]
      simp [e0']
  · by_cases k1 : kd = 1
    · subst k1; simp
    · simp [k0, k1]

def badProg (p : List tInstr) (x : tInstr) : Bool := !validInstr x p.length

theorem validProg_eq (p : List tInstr) : validProg p = (!p.any (badProg p) && decide (p.length ≤ 400)) := by
  unfold validProg badProg; rw [Bool.and_comm]

set_option maxHeartbeats 1000000 in
theorem spec_l07Is (A : Option Addr) (c : Nat) (xs : List tInstr) (w : World) (h : Sl eInstr w (Old w) A c xs) :
    Calls Try.prog 48 #[.slice A xs.length c] w fun e w' => e = .returned (.bool (validProg xs)) ∧ Below w.heap.size w w' := by
  have hlen := h.len
  have H := Lib.hid h; clear h
  have HV := Lib.hid (validProg_eq xs)
  go_enter Try.func48, Try.ntmps48
  go_wp2
  go_loopw [4] (fun s4 wr => ∃ k : Nat, k ≤ xs.length ∧ s4 = .int .i64 k ∧ Hid ((xs.take k).any (badProg xs) = false) ∧ Hid (Below w.heap.size w wr)) (fun s4 _ => xs.length - (intOf s4).toNat)
  case atStart => exact ⟨0, Nat.zero_le _, rfl, rfl, Below.refl _ w⟩
  case round =>
    obtain ⟨k, hk, rfl, HN, BW⟩ := hrel
    by_cases hlt : k < xs.length
    · have hltz : (k : Int) < (xs.length : Int) := by omega
      obtain ⟨b, off, es, rfl, hb, hR, hc⟩ := H.out.at hlt
      obtain ⟨rfl, _, _, _, _⟩ := shape_Instr hR
      have d0 : wr.cell? ⟨b, off + k * 4, none⟩ = some (.int .i64 xs[k].1) := (below_olds BW.out _ hb).trans (hc 0 _ rfl)
      have d1 : wr.cell? ⟨b, off + k * 4 + 1, none⟩ = some (.int .i64 xs[k].2.1) := (below_olds BW.out _ hb).trans (hc 1 _ rfl)
      have d2 : wr.cell? ⟨b, off + k * 4 + 2, none⟩ = some (.int .i64 xs[k].2.2.1) := (below_olds BW.out _ hb).trans (hc 2 _ rfl)
      have d3 : wr.cell? ⟨b, off + k * 4 + 3, none⟩ = some (.int .i64 xs[k].2.2.2) := (below_olds BW.out _ hb).trans (hc 3 _ rfl)
      clear hc hR
      have HT : Hid (badProg xs xs[k] = true → validProg xs = false) := fun e => by rw [HV.out, any_hit hlt e]; rfl
      have HS : Hid (badProg xs xs[k] = false → (xs.take (k + 1)).any (badProg xs) = false) := fun e => any_step hlt HN.out e
      generalize xs[k] = y at d0 d1 d2 d3 HT HS
      obtain ⟨kd, r, t, el⟩ := y
      have HE : Hid (badProg xs (kd, r, t, el) = !(isReg r && withinB t 0 xs.length && ((kd == 0 || kd == 1) && (kd != 0 || el == 0) && withinB el 0 xs.length))) := by show _ = _; unfold badProg; rw [validInstr_eq]
      have HBW : Hid (∀ o, Below w.heap.size w (wr.alloc o)) := fun o => below_alloc BW.out o
      cases q1 : isReg r
      · go_wp2_with (go_at_call 86; refine (spec_l07Register _ _).mono ?_; rintro e w' ⟨rfl, rfl⟩; rw [q1])
        go_ret
        exact ⟨by rw [HT.out (by rw [HE.out, q1]; simp)]; rfl, HBW.out _⟩
      cases q2 : withinB t 0 xs.length
      · go_wp2_with (first | (go_at_call 86; refine (spec_l07Register _ _).mono ?_; rintro e w' ⟨rfl, rfl⟩; rw [q1]) | (go_at_call 61; refine (spec_l00In _ _ _ _).mono ?_; rintro e w' ⟨rfl, rfl⟩; rw [q2]))
        go_ret
        exact ⟨by rw [HT.out (by rw [HE.out, q2]; simp)]; rfl, HBW.out _⟩
      by_cases k0 : kd = 0
      · subst k0
        by_cases e0 : el = 0
        · subst e0
          cases q3 : withinB 0 0 xs.length
          · exfalso; simp [withinB] at q3
          have hF := HS.out (by rw [HE.out, q1, q2, q3]; simp)
          have HF := Lib.hid hF; clear hF
          go_wp2_with (first | (go_at_call 86; refine (spec_l07Register _ _).mono ?_; rintro e w' ⟨rfl, rfl⟩; rw [q1]) | (go_at_call 61; refine (spec_l00In _ _ _ _).mono ?_; rintro e w' ⟨rfl, rfl⟩; first | rw [q2] | rw [q3]))
          go_roundw
          case rel => exact ⟨k + 1, by omega, by go_num, HF.out, HBW.out _⟩
          case measure => simp [intOf]; omega
        · have e0' : (el != 0) = true := by simp [e0]
          have hF := HT.out (by rw [HE.out]; simp [e0])
          have HF := Lib.hid hF; clear hF
          go_wp2_with (first | (go_at_call 86; refine (spec_l07Register _ _).mono ?_; rintro e w' ⟨rfl, rfl⟩; rw [q1]) | (go_at_call 61; refine (spec_l00In _ _ _ _).mono ?_; rintro e w' ⟨rfl, rfl⟩; rw [q2]))
          go_ret
          exact ⟨by rw [HF.out]; rfl, HBW.out _⟩
      have k0a : (kd != 0) = true := by simp [k0]
      have k0b : (kd == 0) = false := by simp [k0]
      by_cases k1 : kd = 1
      · subst k1
        cases q3 : withinB el 0 xs.length
        · have hF := HT.out (by rw [HE.out, q3]; simp)
          have HF := Lib.hid hF; clear hF
          go_wp2_with (first | (go_at_call 86; refine (spec_l07Register _ _).mono ?_; rintro e w' ⟨rfl, rfl⟩; rw [q1]) | (go_at_call 61; refine (spec_l00In _ _ _ _).mono ?_; rintro e w' ⟨rfl, rfl⟩; first | rw [q2] | rw [q3]))
          go_ret
          exact ⟨by rw [HF.out]; rfl, HBW.out _⟩
        · have hF := HS.out (by rw [HE.out, q1, q2, q3]; simp)
          have HF := Lib.hid hF; clear hF
          go_wp2_with (first | (go_at_call 86; refine (spec_l07Register _ _).mono ?_; rintro e w' ⟨rfl, rfl⟩; rw [q1]) | (go_at_call 61; refine (spec_l00In _ _ _ _).mono ?_; rintro e w' ⟨rfl, rfl⟩; first | rw [q2] | rw [q3]))
          go_roundw
          case rel => exact ⟨k + 1, by omega, by go_num, HF.out, HBW.out _⟩
          case measure => simp [intOf]; omega
      have k1a : (kd != 1) = true := by simp [k1]
      have hF := HT.out (by rw [HE.out]; simp [k0, k1])
      have HF := Lib.hid hF; clear hF
      go_wp2_with (first | (go_at_call 86; refine (spec_l07Register _ _).mono ?_; rintro e w' ⟨rfl, rfl⟩; rw [q1]) | (go_at_call 61; refine (spec_l00In _ _ _ _).mono ?_; rintro e w' ⟨rfl, rfl⟩; rw [q2]))
      go_ret
      exact ⟨by rw [HF.out]; rfl, HBW.out _⟩
    · have hltz : ¬ (k : Int) < (xs.length : Int) := by omega
      obtain rfl : k = xs.length := by omega
      go_wp2
      go_ret
      have hn := HN.out
      rw [List.take_length] at hn
      exact ⟨ret_bool (by rw [HV.out, hn]; simp; omega), BW.out⟩

theorem left_ok {l : Int} {n : Nat} (h : ¬ left l n < 0) : left l n = l - (n : Int) ∧ (n : Int) ≤ l := by
  unfold left at *; split at h <;> simp_all <;> omega

theorem validProg_to {p : List tInstr} (h : validProg p = true) : ∀ i ∈ p, (0 ≤ i.2.2.1 ∧ i.2.2.1 ≤ p.length) ∧ (0 ≤ i.2.2.2 ∧ i.2.2.2 ≤ p.length) := by
  intro i hi
  unfold validProg at h
  simp at h
  have h1 := h.2 i.1 i.2.1 i.2.2.1 i.2.2.2 hi
  unfold validInstr at h1
  simp only [Bool.and_eq_true] at h1
  refine ⟨withinB_true.1 h1.1.2, ?_⟩
  have h3 := h1.2
  split at h3
  · simp at h3; omega
  · split at h3
    · exact withinB_true.1 h3
    · simp at h3

theorem ct_cost_SInstr (xs : List tInstr) : ct_SInstr xs ≤ 4 * cost_SInstr xs := by
  have := cntL_const ct_Instr 4 xs fun _ => rfl
  unfold ct_SInstr cost_SInstr; omega

/-- A row whose elements behind k have been shifted. -/
def shR {α : Type} (l : List α) (z : α) (k : Nat) : List α := l.take k ++ ((l ++ [z])[k]?.getD z) :: l.drop k

theorem shR_len {α : Type} (l : List α) (z : α) (k : Nat) (h : k ≤ l.length) : (shR l z k).length = l.length + 1 := by
  unfold shR
  rw [List.length_append, List.length_cons, List.length_take, List.length_drop]; omega

theorem shR_start {α : Type} (l : List α) (z : α) : shR l z l.length = l ++ [z] := by
  unfold shR
  rw [List.take_of_length_le (Nat.le_refl _), List.drop_of_length_le (Nat.le_refl _), List.getElem?_append_right (Nat.le_refl _), Nat.sub_self]; rfl

theorem shR_set {α : Type} (l : List α) (z r : α) {k : Nat} (h : k ≤ l.length) : (shR l z k).set k r = l.take k ++ r :: l.drop k := by
  have hl : (l.take k).length = k := by rw [List.length_take]; omega
  unfold shR
  rw [List.set_append_right _ _ (by omega), hl, Nat.sub_self]; rfl

theorem shR_step {α : Type} {l : List α} {z e : α} {k : Nat} (h0 : 0 < k) (h : k ≤ l.length) (he : (shR l z k)[k - 1]? = some e) : shR l z (k - 1) = (shR l z k).set k e := by
  have hl : (l.take k).length = k := by rw [List.length_take]; omega
  have e1 : l[k - 1]? = some e := by
    unfold shR at he
    rw [List.getElem?_append_left (by omega), List.getElem?_take_of_lt (by omega)] at he
    exact he
  obtain ⟨j, rfl⟩ : ∃ j, k = j + 1 := ⟨k - 1, by omega⟩
  rw [Nat.add_sub_cancel] at e1 ⊢
  have hj : j < l.length := by omega
  have e2 : l[j] = e := by rw [List.getElem?_eq_getElem hj] at e1; exact Option.some.inj e1
  rw [shR_set l z e h]
  unfold shR
  rw [List.getElem?_append_left hj, e1, Option.getD_some, List.take_succ_eq_append_getElem hj, e2, List.drop_eq_getElem_cons hj, e2]
  simp

def red (f : Int → Int) (x : tInstr) : tInstr := (x.1, x.2.1, f x.2.2.1, if x.1 = 1 then f x.2.2.2 else x.2.2.2)

def redTo (f : Int → Int) (xs : List tInstr) (k : Nat) : List tInstr := (xs.take k).map (red f) ++ xs.drop k

theorem redTo_len (f : Int → Int) (xs : List tInstr) (k : Nat) : (redTo f xs k).length = xs.length := by
  unfold redTo
  rw [List.length_append, List.length_map, List.length_take, List.length_drop]; omega

theorem redTo_zero (f : Int → Int) (xs : List tInstr) : redTo f xs 0 = xs := by simp [redTo]

theorem redTo_end (f : Int → Int) (xs : List tInstr) {k : Nat} (h : xs.length ≤ k) : redTo f xs k = xs.map (red f) := by
  unfold redTo; rw [List.take_of_length_le h, List.drop_of_length_le h]; simp

theorem redTo_at (f : Int → Int) (xs : List tInstr) {k : Nat} (h : k < xs.length) (h2 : k < (redTo f xs k).length) : (redTo f xs k)[k] = xs[k] := by
  have hl : ((xs.take k).map (red f)).length = k := by simp; omega
  have e : (redTo f xs k)[k]? = xs[k]? := by
    unfold redTo
    rw [List.getElem?_append_right (by omega), hl, Nat.sub_self]
    simp
  rw [List.getElem?_eq_getElem h2, List.getElem?_eq_getElem h] at e
  exact Option.some.inj e

theorem redTo_succ (f : Int → Int) (xs : List tInstr) {k : Nat} (h : k < xs.length) : redTo f xs (k + 1) = (redTo f xs k).set k (red f xs[k]) := by
  have hl : ((xs.take k).map (red f)).length = k := by simp; omega
  unfold redTo
  rw [List.set_append_right _ _ (by omega), hl, Nat.sub_self, List.take_succ_eq_append_getElem h, List.map_append, List.append_assoc, List.drop_eq_getElem_cons h]
  rfl

def okP (p : List tInstr) : Prop := p.length ≤ 400 ∧ ∀ x ∈ p, (x.1 = 0 ∨ x.1 = 1) ∧ (0 ≤ x.2.2.1 ∧ x.2.2.1 ≤ 400) ∧ 0 ≤ x.2.2.2 ∧ x.2.2.2 ≤ 400

theorem validProg_okP {p : List tInstr} (h : validProg p = true) : okP p := by
  have hl : p.length ≤ 400 := by
    unfold validProg at h
    simp at h
    omega
  refine ⟨hl, fun x hx => ?_⟩
  have h2 := validProg_to h x hx
  refine ⟨?_, by omega, by omega, by omega⟩
  unfold validProg at h
  simp at h
  have h1 := h.2 x.1 x.2.1 x.2.2.1 x.2.2.2 hx
  unfold validInstr at h1
  simp only [Bool.and_eq_true] at h1
  have h3 := h1.2
  split at h3
  · rename_i q; exact .inl (by simpa using q)
  · split at h3
    · rename_i q; exact .inr (by simpa using q)
    · simp at h3

def sortI (xs : List Int) : List Int := xs.mergeSort fun x y => decide (x ≤ y)

theorem sortI_len (xs : List Int) : (sortI xs).length = xs.length := List.length_mergeSort xs

theorem sortI_mem {xs : List Int} {x : Int} : x ∈ sortI xs ↔ x ∈ xs := (List.mergeSort_perm xs _).mem_iff

def shelf_bsearch_ren : Go.Shelf.Ren := ⟨fun | 49 => 57 | 59 => 94 | 60 => 95 | 68 => 113 | n => n, fun | 22 => 37 | 23 => 2 | 3 => 3 | 4 => 4 | 51 => 123 | 0 => 0 | n => n, fun | n => n⟩

theorem shelf_bsearch : Go.Proofs.SlLaysN.n49 Try.prog shelf_bsearch_ren := {
  mixed := by kernel_rfl
  f49 := ⟨Try.f57.name, by decide, Try.func57.trans (congrArg some (by kernel_rfl))⟩
  f59 := ⟨Try.f94.name, by decide, Try.func94.trans (congrArg some (by kernel_rfl))⟩
  f60 := ⟨Try.f95.name, by decide, Try.func95.trans (congrArg some (by kernel_rfl))⟩
  f68 := ⟨Try.f113.name, by decide, Try.func113.trans (congrArg some (by kernel_rfl))⟩
  t0 := Try.underlying0
  a0 := Try.isAgg0
  z0 := Try.sizeOf0
  v0 := Try.zeroValue0
  t3 := Try.underlying3
  a3 := Try.isAgg3
  z3 := Try.sizeOf3
  v3 := Try.zeroValue3
  t4 := Try.underlying4
  a4 := Try.isAgg4
  z4 := Try.sizeOf4
  v4 := Try.zeroValue4
  t22 := Try.underlying37
  a22 := Try.isAgg37
  z22 := Try.sizeOf37
  v22 := Try.zeroValue37
  t23 := Try.underlying2
  a23 := Try.isAgg2
  z23 := Try.sizeOf2
  v23 := Try.zeroValue2
  t51 := Try.underlying123
  a51 := Try.isAgg123
  z51 := Try.sizeOf123
  v51 := Try.zeroValue123 }

theorem sortI_rise (xs : List Int) : (sortI xs).Pairwise (· ≤ ·) := by
  have := List.pairwise_mergeSort (le := fun x y : Int => decide (x ≤ y)) (fun a b c h1 h2 => by simp at *; omega) (fun a b => by simp; omega) xs
  exact this.imp fun h => by simpa using h

theorem rise_ext : ∀ {xs ys : List Int}, xs.Pairwise (· < ·) → ys.Pairwise (· < ·) → (∀ x, x ∈ xs ↔ x ∈ ys) → xs = ys
  | [], [], _, _, _ => rfl
  | [], y :: ys, _, _, h => by have := (h y).2 (by simp); cases this
  | x :: xs, [], _, _, h => by have := (h x).1 (by simp); cases this
  | x :: xs, y :: ys, hx, hy, h => by
    obtain ⟨hx1, hx2⟩ := List.pairwise_cons.1 hx
    obtain ⟨hy1, hy2⟩ := List.pairwise_cons.1 hy
    have e : x = y := by
      have h1 := (h x).1 (by simp)
      have h2 := (h y).2 (by simp)
      rcases List.mem_cons.1 h1 with h1 | h1
      · exact h1
      · rcases List.mem_cons.1 h2 with h2 | h2
        · exact h2.symm
        · have := hx1 y h2
          have := hy1 x h1
          omega
    subst e
    rw [rise_ext hx2 hy2 fun z => ?_]
    constructor
    · intro hz
      rcases List.mem_cons.1 ((h z).1 (by simp [hz])) with q | q
      · have := hx1 z hz; omega
      · exact q
    · intro hz
      rcases List.mem_cons.1 ((h z).2 (by simp [hz])) with q | q
      · have := hy1 z hz; omega
      · exact q

theorem Sl.i64 {w : World} {S : Nat → Prop} {A : Option Addr} {c : Nat} {xs : List Int} (h : Sl eInt w S A c xs) : ∀ x ∈ xs, -9223372036854775808 ≤ x ∧ x ≤ 9223372036854775807 := by
  intro x hx
  obtain ⟨i, hi⟩ := List.mem_iff_getElem?.1 hx
  obtain ⟨b, off, _, _, hc⟩ := h.2.2 (fun e => by rw [e] at hx; cases hx)
  obtain ⟨es, ⟨_, h1⟩, _⟩ := hc i x hi
  exact h1

open Go.Lib in
def mk2 : List Int → List tFraction
  | a :: b :: r => (a, b) :: mk2 r
  | _ => []

open Go.Lib in
def knownL (k : Int) : List tFraction := if k = 0 then mk2 [3, 2] else if k = 1 then mk2 [455, 33, 11, 13, 1, 11, 3, 7, 11, 2, 1, 3] else mk2 [17, 91, 78, 85, 19, 51, 23, 38, 29, 33, 77, 29, 95, 23, 77, 19, 1, 17, 11, 13, 13, 11, 15, 14, 15, 2, 55, 1]

open Go.Lib in
def known (k : Int) : List tFraction × Int := if withinB k 0 2 = true then (knownL k, 0) else ([], 2)

def hasI (xs : List Int) (x : Int) : Bool := decide (x ∈ xs)

theorem has_hit {xs : List Int} {x : Int} {k : Nat} (hk : k < xs.length) (h : xs[k] = x) : hasI xs x = true := by
  unfold hasI; rw [decide_eq_true_eq, ← h]; exact List.getElem_mem _

theorem has_miss {xs : List Int} {x : Int} {k : Nat} (hk : xs.length ≤ k) (h : ¬ x ∈ xs.take k) : hasI xs x = false := by
  rw [List.take_of_length_le hk] at h; simp [hasI, h]

theorem not_snoc {xs : List Int} {x : Int} {k : Nat} (hk : k < xs.length) (h : ¬ x ∈ xs.take k) (h2 : ¬ xs[k] = x) : ¬ x ∈ xs.take (k + 1) := by
  rw [List.take_succ_eq_append_getElem hk, List.mem_append, List.mem_singleton]
  rintro (h3 | h3)
  · exact h h3
  · exact h2 h3.symm

set_option maxRecDepth 100000 in
set_option maxHeartbeats 4000000 in
theorem spec_l00Has (A0 : Option Addr) (c0 : Nat) (a0 : (List Int)) (a1 : Int) (w : World) (h0 : Sl eInt w (Old w) A0 c0 a0) :
    Calls Try.prog 87 #[.slice A0 a0.length c0, .int .i64 a1] w fun e w' => e = .returned (.bool (hasI a0 a1)) ∧ Below w.heap.size w w' := by
  have l0 := h0.len
  have HH1 := Held.start Nob w
  refine enter (n := 18) Try.func87 rfl rfl rfl fun a_2 HE3 => ?_
  refine wp_seq ?_
  refine rg ?_
  refine pl_x HE3 HH1 (wt0 rfl) (x_assign rfl) rfl rfl fun a_4 HE5 => ?_
  refine wpList_nil ?_
  clear a_2 HE3
  refine nrm ?_
  refine wp_seq ?_
  refine wp_seq ?_
  refine rg ?_
  refine pl_x HE5 HH1 (wt0 rfl) (x_assign rfl) rfl rfl fun a_6 HE7 => ?_
  refine wpList_nil ?_
  clear a_4 HE5
  refine nrm ?_
  refine wp_block ?_
  refine lp (fun m a w' => ∃ (k : Nat), m = a0.length - k ∧ Env 18 [(5, .int .i64 (k : Int)), (0, .slice A0 (a0.length) c0), (1, .int .i64 (a1))] a ∧ Held Nob w [] w' ∧ (k ≤ a0.length) ∧ (¬ a1 ∈ a0.take k)) (a0.length - (0)) ?_ ?_
  · exact ⟨0, rfl, HE7.sub ⟨(lkI rfl (by first | rfl | omega | (simp []; done))), rfl, rfl, trivial⟩, (HH1.sel [] (by decide) rfl), (by first | omega | assumption | (simp; done) | simp_all), (by simp)⟩
  · rintro m a_8 w' ⟨k, rfl, HE9, HH10, p21_0, p21_1⟩
    refine wp_seq ?_
    refine wp_seq ?_
    refine rg ?_
    refine pl_x HE9 HH10 (wt0 rfl) (x_move rfl) rfl rfl fun a_11 HE12 => ?_
    refine pl_x HE12 HH10 (wt0 rfl) (x_move rfl) rfl rfl fun a_13 HE14 => ?_
    refine pl_x HE14 HH10 (wt0 rfl) (x_len Try.underlying37 rfl) rfl rfl fun a_15 HE16 => ?_
    refine pl_x HE16 HH10 (wt0 rfl) (x_lss rfl rfl) rfl rfl fun a_17 HE18 => ?_
    refine wpList_nil ?_
    clear a_6 HE7 HH1 a_8 HE9 a_11 HE12 a_13 HE14 a_15 HE16
    refine nrm ?_
    refine cnd_d HE18 rfl (fun hc22 => ?_) (fun hc22 => ?_)
    · refine wp_skip ?_
      refine nrm ?_
      refine wp_seq ?_
      refine wp_block ?_
      refine wp_seq ?_
      refine rg ?_
      refine pl_x HE18 HH10 (wt0 rfl) (x_move rfl) rfl rfl fun a_19 HE20 => ?_
      refine pl_x HE20 HH10 (wt0 rfl) (x_move rfl) rfl rfl fun a_21 HE22 => ?_
      have ke23 : k < a0.length := by omega
      obtain ⟨be23, fe23, ese23, Ae23, Re23, De23⟩ := el_old h0 ke23
      obtain ⟨e23, xe23⟩ : ∃ x_, x_ = a0[k] := ⟨_, rfl⟩
      rw [← xe23] at Re23
      have Qe23 := Re23
      obtain ⟨rfl, ie23⟩ := Re23
      have je23 := ie23; unfold I64 at je23
      refine pl_x HE22 HH10 (wt0 rfl) (x_indexAddr ts_37 rfl rfl Ae23 rfl ke23) rfl rfl fun a_23 HE24 => ?_
      refine pl_x HE24 HH10 (wt0 rfl) (x_load1 tv_2 rfl (c_old (De23 0 _ rfl))) rfl rfl fun a_25 HE26 => ?_
      refine pl_x HE26 HH10 (wt0 rfl) (x_move rfl) rfl rfl fun a_27 HE28 => ?_
      refine pl_x HE28 HH10 (wt0 rfl) (x_eql rfl rfl) rfl rfl fun a_29 HE30 => ?_
      refine wpList_nil ?_
      clear a_17 HE18 a_19 HE20 a_21 HE22 a_23 HE24 a_25 HE26 a_27 HE28
      refine nrm ?_
      refine cnd_e HE30 rfl (fun hc24 => ?_) (fun hc24 => ?_)
      · refine wp_seq ?_
        refine rg ?_
        refine pl_x HE30 HH10 (wt0 rfl) (x_assign rfl) rfl rfl fun a_31 HE32 => ?_
        refine wpList_nil ?_
        clear a_29 HE30
        refine nrm ?_
        refine wp_ret ?_
        refine (blk_ret (thn_ret (thn_ret (blk_ret (thn_ret ?_)))))
        refine ret1 HE32 rfl (rv_tmp rfl) ?_
        have hF : (hasI a0 a1) = true := by
          first | exact has_hit (by omega) (by rw [← xe23]; omega) | exact has_miss (by omega) p21_1
        exact ⟨by first | (rw [hF] <;> rfl) | rfl | (rw [hF]; simp only [Ending.returned.injEq, Value.slice.injEq, true_and, and_true]; first | omega | (simp; done)) | (rw [hF]; simp; omega), HH10.below⟩
      · refine wp_skip ?_
        refine blk_n ?_
        refine nrm ?_
        refine rg ?_
        refine pl_x HE30 HH10 (wt0 rfl) (x_move rfl) rfl rfl fun a_33 HE34 => ?_
        refine pl_x HE34 HH10 (wt0 rfl) (x_add rfl rfl (by exact ⟨by omega, by omega⟩)) rfl rfl fun a_35 HE36 => ?_
        refine pl_x HE36 HH10 (wt0 rfl) (x_assign rfl) rfl rfl fun a_37 HE38 => ?_
        refine wpList_nil ?_
        clear a_29 HE30 a_33 HE34 a_35 HE36
        exact nrm ⟨a0.length - (k + 1), (by omega), k + 1, rfl, HE38.sub ⟨(lkI rfl (by first | rfl | omega | (simp [p21_0, p21_1, hc22, xe23, hc24]; done))), rfl, rfl, trivial⟩, (HH10.sel [] (by decide) rfl), (by first | omega | assumption | (simp; done) | simp_all), (by exact not_snoc (by omega) p21_1 (by rw [← xe23]; omega))⟩
    · refine wp_exit ?_
      refine (thn_exit (thn_exit (blk_hit ?_)))
      refine nrm ?_
      refine wp_seq ?_
      refine rg ?_
      refine pl_x HE18 HH10 (wt0 rfl) (x_assign rfl) rfl rfl fun a_39 HE40 => ?_
      refine wpList_nil ?_
      clear a_17 HE18
      refine nrm ?_
      refine wp_ret ?_
      refine ret1 HE40 rfl (rv_tmp rfl) ?_
      have hF : (hasI a0 a1) = false := by
        first | exact has_hit (by omega) (by rw [← xe0]; omega) | exact has_miss (by omega) p21_1
      exact ⟨by first | (rw [hF] <;> rfl) | rfl | (rw [hF]; simp only [Ending.returned.injEq, Value.slice.injEq, true_and, and_true]; first | omega | (simp; done)) | (rw [hF]; simp; omega), HH10.below⟩

def nxP (p : List tInstr) (k : Int) : List Int :=
  if (p[k.toNat]?.getD default).1 = 0 then [(p[k.toNat]?.getD default).2.2.1] else [(p[k.toNat]?.getD default).2.2.1, (p[k.toNat]?.getD default).2.2.2]

theorem nxP_len (p : List tInstr) (k : Int) : (nxP p k).length ≤ 2 := by unfold nxP; split <;> simp

/-- The states that a walk in depth has seen. -/
def visF (p : List tInstr) : Nat → List Bool → Int → List Bool
  | 0, s, _ => s
  | f + 1, s, k => if (p.length : Int) ≤ k ∨ s[k.toNat]?.getD true = true then s else (nxP p k).foldl (visF p f) (s.set k.toNat true)

theorem fold_inv {α β : Type} {P : β → Prop} {g : β → α → β} (hg : ∀ s k, P s → P (g s k)) : ∀ (l : List α) (s : β), P s → P (l.foldl g s)
  | [], _, h => h
  | k :: l, s, h => fold_inv hg l (g s k) (hg s k h)

theorem visF_len (p : List tInstr) : ∀ (f : Nat) (s : List Bool) (k : Int), (visF p f s k).length = s.length
  | 0, _, _ => rfl
  | f + 1, s, k => by
    rw [visF]
    split
    · rfl
    · exact fold_inv (P := fun s' : List Bool => s'.length = s.length) (fun s' k' h => (visF_len p f s' k').trans h) _ _ (by simp)

theorem cF_set {s : List Bool} {i : Nat} (h : s[i]? = some false) : (s.set i true).count false + 1 = s.count false := by
  obtain ⟨hi, he⟩ := List.getElem?_eq_some_iff.1 h
  have h1 : 0 < s.count false := List.count_pos_iff.2 (by rw [← he]; exact List.getElem_mem _)
  rw [List.count_set (h := hi)]
  simp [he]
  omega

theorem seen_at {p : List tInstr} {s : List Bool} {k : Int} (hl : s.length = p.length) (h0 : 0 ≤ k) (h : ¬ ((p.length : Int) ≤ k ∨ s[k.toNat]?.getD true = true)) : s[k.toNat]? = some false := by
  simp only [not_or] at h
  have hi : k.toNat < s.length := by omega
  rw [List.getElem?_eq_getElem hi] at h ⊢
  simpa using h.2

theorem visF_cnt (p : List tInstr) : ∀ (f : Nat) (s : List Bool) (k : Int), s.length = p.length → 0 ≤ k → (∀ x t, t ∈ nxP p x → 0 ≤ t) → (visF p f s k).count false ≤ s.count false
  | 0, _, _, _, _, _ => Nat.le_refl _
  | f + 1, s, k, hl, h0, hn => by
    rw [visF]
    split
    · exact Nat.le_refl _
    · rename_i hc
      have h1 := cF_set (seen_at hl h0 hc)
      have key : ∀ (l : List Int) (s' : List Bool), (∀ t ∈ l, 0 ≤ t) → s'.length = p.length → (l.foldl (visF p f) s').count false ≤ s'.count false := by
        intro l
        induction l with
        | nil => intro s' _ _; exact Nat.le_refl _
        | cons t l ih =>
          intro s' ht hl'
          have h2 := visF_cnt p f s' t hl' (ht t (by simp)) hn
          have h3 := ih (visF p f s' t) (fun t' h' => ht t' (by simp [h'])) ((visF_len p f s' t).trans hl')
          exact Nat.le_trans h3 h2
      have h4 := key (nxP p k) (s.set k.toNat true) (fun t ht => hn k t ht) (by simpa using hl)
      omega

theorem visFold_cnt {p : List tInstr} {f : Nat} (hn : ∀ x t, t ∈ nxP p x → 0 ≤ t) : ∀ (l : List Int) (s : List Bool), (∀ t ∈ l, 0 ≤ t) → s.length = p.length → (l.foldl (visF p f) s).length = p.length ∧ (l.foldl (visF p f) s).count false ≤ s.count false
  | [], _, _, hl => ⟨hl, Nat.le_refl _⟩
  | t :: l, s, ht, hl => by
    have h2 := visF_cnt p f s t hl (ht t (by simp)) hn
    have h3 := visFold_cnt (f := f) hn l (visF p f s t) (fun t' h' => ht t' (by simp [h'])) ((visF_len p f s t).trans hl)
    exact ⟨h3.1, Nat.le_trans h3.2 h2⟩

theorem visF_mono (p : List tInstr) {i : Nat} : ∀ (f : Nat) (s : List Bool) (k : Int), s[i]? = some true → (visF p f s k)[i]? = some true
  | 0, _, _, h => h
  | f + 1, s, k, h => by
    rw [visF]
    split
    · exact h
    · refine fold_inv (P := fun s' : List Bool => s'[i]? = some true) (fun s' k' h => visF_mono p f s' k' h) _ _ ?_
      obtain ⟨hi, he⟩ := List.getElem?_eq_some_iff.1 h
      rw [List.getElem?_set]
      split
      · rw [if_pos (by omega)]
      · exact h

theorem visFold_mono (p : List tInstr) {f i : Nat} (l : List Int) (s : List Bool) (h : s[i]? = some true) : (l.foldl (visF p f) s)[i]? = some true :=
  fold_inv (P := fun s' : List Bool => s'[i]? = some true) (fun s' k' h => visF_mono p f s' k' h) _ _ h

/-- All that x leads to is seen. -/
def ClosP (p : List tInstr) (s : List Bool) (x : Nat) : Prop := ∀ t ∈ nxP p (x : Int), t < (p.length : Int) → s[t.toNat]? = some true

theorem visF_clos {p : List tInstr} (hn : ∀ x t, t ∈ nxP p x → 0 ≤ t) : ∀ (f : Nat) (s : List Bool) (k : Int), s.length = p.length → 0 ≤ k → s.count false < f →
    (k < (p.length : Int) → (visF p f s k)[k.toNat]? = some true) ∧ ∀ x, (visF p f s k)[x]? = some true → s[x]? ≠ some true → ClosP p (visF p f s k) x
  | 0, _, _, _, _, h => absurd h (Nat.not_lt_zero _)
  | f + 1, s, k, hl, h0, hf => by
    rw [visF]
    split
    · rename_i hc
      refine ⟨fun hk => ?_, fun x h1 h2 => absurd h1 h2⟩
      have hi : k.toNat < s.length := by omega
      rcases hc with hc | hc
      · omega
      · rw [List.getElem?_eq_getElem hi] at hc ⊢
        simpa using hc
    · rename_i hc
      have hs := seen_at hl h0 hc
      have hcnt := cF_set hs
      have hi : k.toNat < s.length := (List.getElem?_eq_some_iff.1 hs).1
      have key : ∀ (l : List Int) (s' : List Bool), (∀ t ∈ l, 0 ≤ t) → s'.length = p.length → s'.count false < f →
          (∀ t ∈ l, t < (p.length : Int) → (l.foldl (visF p f) s')[t.toNat]? = some true) ∧ ∀ x, (l.foldl (visF p f) s')[x]? = some true → s'[x]? ≠ some true → ClosP p (l.foldl (visF p f) s') x := by
        intro l
        induction l with
        | nil => intro s' _ _ _; exact ⟨(fun t ht => by cases ht), fun x h1 h2 => absurd h1 h2⟩
        | cons t l ih =>
          intro s' ht hl' hf'
          have h1 := visF_clos hn f s' t hl' (ht t (by simp)) hf'
          have h2 := visF_cnt p f s' t hl' (ht t (by simp)) hn
          have h3 := ih (visF p f s' t) (fun t' h' => ht t' (by simp [h'])) ((visF_len p f s' t).trans hl') (by omega)
          refine ⟨fun t' ht' hlt => ?_, fun x hx hnx => ?_⟩
          · rcases List.mem_cons.1 ht' with rfl | ht'
            · exact visFold_mono p l _ (h1.1 hlt)
            · exact h3.1 t' ht' hlt
          · by_cases hq : (visF p f s' t)[x]? = some true
            · exact fun u hu hlt => visFold_mono p l _ (h1.2 x hq hnx u hu hlt)
            · exact h3.2 x hx hq
      have hk := key (nxP p k) (s.set k.toNat true) (fun t ht => hn k t ht) (by simpa using hl) (by omega)
      refine ⟨fun _ => visFold_mono p _ _ (by rw [List.getElem?_set_self hi]), fun x hx hnx => ?_⟩
      by_cases e : x = k.toNat
      · subst e
        intro t ht hlt
        rw [show ((k.toNat : Nat) : Int) = k from by omega] at ht
        exact hk.1 t ht hlt
      · exact hk.2 x hx (by rw [List.getElem?_set_ne (fun h => e h.symm)]; exact hnx)

/-- What can be reached. -/
inductive Rch (p : List tInstr) : Nat → Prop
  | zero : 0 < p.length → Rch p 0
  | step (x : Nat) (t : Int) : Rch p x → t ∈ nxP p (x : Int) → 0 ≤ t → t < (p.length : Int) → Rch p t.toNat

theorem Rch.lt {p : List tInstr} {x : Nat} (h : Rch p x) : x < p.length := by
  cases h with
  | zero h => exact h
  | step x t _ _ h0 h1 => omega

theorem visF_sound {p : List tInstr} (hn : ∀ x t, t ∈ nxP p x → 0 ≤ t) : ∀ (f : Nat) (s : List Bool) (k : Int), s.length = p.length → 0 ≤ k → (∀ x, s[x]? = some true → Rch p x) → (k < (p.length : Int) → Rch p k.toNat) → ∀ x, (visF p f s k)[x]? = some true → Rch p x
  | 0, _, _, _, _, h, _ => h
  | f + 1, s, k, hl, h0, h, hk => by
    rw [visF]
    split
    · exact h
    · rename_i hc
      have hs := seen_at hl h0 hc
      have hi : k.toNat < s.length := (List.getElem?_eq_some_iff.1 hs).1
      have hR := hk (by omega)
      have key : ∀ (l : List Int) (s' : List Bool), (∀ t ∈ l, 0 ≤ t ∧ (t < (p.length : Int) → Rch p t.toNat)) → s'.length = p.length → (∀ x, s'[x]? = some true → Rch p x) → ∀ x, (l.foldl (visF p f) s')[x]? = some true → Rch p x := by
        intro l
        induction l with
        | nil => intro s' _ _ h; exact h
        | cons t l ih =>
          intro s' ht hl' h'
          exact ih (visF p f s' t) (fun t' h' => ht t' (by simp [h'])) ((visF_len p f s' t).trans hl') (visF_sound hn f s' t hl' (ht t (by simp)).1 h' (ht t (by simp)).2)
      refine key (nxP p k) (s.set k.toNat true) (fun t ht => ⟨hn k t ht, fun hlt => Rch.step k.toNat t hR (by rw [show ((k.toNat : Nat) : Int) = k from by omega]; exact ht) (hn k t ht) hlt⟩) (by simpa using hl) fun x hx => ?_
      rw [List.getElem?_set] at hx
      split at hx
      · rename_i e; rw [← e]; exact hR
      · exact h x hx

/-- What the walk in depth has seen at its end. -/
def seenP (p : List tInstr) : List Bool := visF p (p.length + 1) (List.replicate p.length false) 0

theorem seenP_iff {p : List tInstr} (hn : ∀ x t, t ∈ nxP p x → 0 ≤ t) (x : Nat) : (seenP p)[x]? = some true ↔ Rch p x := by
  have hr : ∀ x : Nat, (List.replicate p.length false)[x]? ≠ some true := by
    intro x h
    obtain ⟨hi, he⟩ := List.getElem?_eq_some_iff.1 h
    simp at he
  have hl : (List.replicate p.length false).length = p.length := by simp
  have h1 := visF_clos hn (p.length + 1) (List.replicate p.length false) 0 hl (by omega) (by simp)
  refine ⟨visF_sound hn _ _ 0 hl (by omega) (fun x h => absurd h (hr x)) (fun h => Rch.zero (by omega)) x, fun h => ?_⟩
  unfold seenP
  induction h with
  | zero h => exact h1.1 (by omega)
  | step x t _ ht h0 hlt ih => exact h1.2 x ih (hr x) t ht hlt

/-- The places of true. -/
def trueI (s : List Bool) (n : Nat) : List Int := ((List.range n).filter fun i => s[i]?.getD false).map fun (i : Nat) => (i : Int)

theorem trueI_succ (s : List Bool) (n : Nat) : trueI s (n + 1) = if s[n]?.getD false = true then trueI s n ++ [(n : Int)] else trueI s n := by
  unfold trueI
  rw [List.range_succ, List.filter_append, List.map_append]
  split
  · rename_i h; simp [h]
  · rename_i h; simp [h]

theorem trueI_mem {s : List Bool} {n : Nat} {x : Int} : x ∈ trueI s n ↔ 0 ≤ x ∧ x < (n : Int) ∧ s[x.toNat]? = some true := by
  unfold trueI
  simp only [List.mem_map, List.mem_filter, List.mem_range]
  constructor
  · rintro ⟨i, ⟨h1, h2⟩, rfl⟩
    refine ⟨by omega, by omega, ?_⟩
    rw [Int.toNat_natCast]
    cases h : s[i]? with
    | none => rw [h] at h2; simp at h2
    | some b => rw [h] at h2; simp at h2; rw [h2]
  · rintro ⟨h1, h2, h3⟩
    exact ⟨x.toNat, ⟨by omega, by rw [h3]; rfl⟩, by omega⟩

theorem trueI_rise (s : List Bool) (n : Nat) : (trueI s n).Pairwise (· < ·) := by
  unfold trueI
  refine List.pairwise_map.2 (List.Pairwise.filter _ ?_)
  exact List.pairwise_lt_range.imp fun h => by omega

theorem trueI_len (s : List Bool) (n : Nat) : (trueI s n).length ≤ n := by
  unfold trueI
  rw [List.length_map]
  exact Nat.le_trans (List.length_filter_le _ _) (by simp)

def keptP (p : List tInstr) : List Int := trueI (seenP p) p.length

theorem keptP_mem {p : List tInstr} (hn : ∀ x t, t ∈ nxP p x → 0 ≤ t) {x : Int} : x ∈ keptP p ↔ 0 ≤ x ∧ Rch p x.toNat := by
  unfold keptP
  rw [trueI_mem, seenP_iff hn]
  constructor
  · rintro ⟨h1, _, h3⟩; exact ⟨h1, h3⟩
  · rintro ⟨h1, h3⟩; have := h3.lt; exact ⟨h1, by omega, h3⟩

/-- A number put behind, if it is a new one below n. -/
def addI (n : Int) (l : List Int) (t : Int) : List Int := if t < n ∧ ¬ t ∈ l then l ++ [t] else l

/-- The queue of a walk in breadth, i of its elements worked off. -/
def bfsI (p : List tInstr) : Nat → List Int
  | 0 => if 0 < p.length then [0] else []
  | i + 1 => if i < (bfsI p i).length then (nxP p ((bfsI p i)[i]?.getD 0)).foldl (addI (p.length : Int)) (bfsI p i) else bfsI p i

structure GoodQ (p : List tInstr) (l : List Int) : Prop where
  nodup : l.Nodup
  rng : ∀ x ∈ l, 0 ≤ x ∧ x < (p.length : Int)
  rch : ∀ x ∈ l, Rch p x.toNat

theorem addI_good {p : List tInstr} {l : List Int} {t : Int} (h : GoodQ p l) (h0 : 0 ≤ t) (hr : t < (p.length : Int) → Rch p t.toNat) : GoodQ p (addI (p.length : Int) l t) := by
  unfold addI
  split
  · rename_i hc
    refine ⟨List.nodup_append.2 ⟨h.nodup, by simp, ?_⟩, ?_, ?_⟩
    · intro a ha b hb e
      rw [List.mem_singleton.1 hb] at e
      exact hc.2 (e ▸ ha)
    · intro x hx
      rcases List.mem_append.1 hx with hx | hx
      · exact h.rng x hx
      · rw [List.mem_singleton.1 hx]; exact ⟨h0, hc.1⟩
    · intro x hx
      rcases List.mem_append.1 hx with hx | hx
      · exact h.rch x hx
      · rw [List.mem_singleton.1 hx]; exact hr hc.1
  · exact h

theorem addI_hit {n : Int} {l : List Int} {t : Int} (h : t < n) (h2 : decide (t ∈ l) = false) : addI n l t = l ++ [t] := by
  unfold addI; rw [if_pos ⟨h, by simpa using h2⟩]

theorem addI_miss {n : Int} {l : List Int} {t : Int} (h : ¬ t < n ∨ decide (t ∈ l) = true) : addI n l t = l := by
  unfold addI; rw [if_neg]
  rintro ⟨h1, h2⟩
  rcases h with h | h
  · exact h h1
  · exact h2 (by simpa using h)

theorem addI_pre (n : Int) (l : List Int) (t : Int) : ∃ q, addI n l t = l ++ q := by
  unfold addI
  split
  · exact ⟨_, rfl⟩
  · exact ⟨[], by simp⟩

theorem addsI_pre (n : Int) : ∀ (ts l : List Int), ∃ q, ts.foldl (addI n) l = l ++ q
  | [], l => ⟨[], by simp⟩
  | t :: ts, l => by
    obtain ⟨q, hq⟩ := addI_pre n l t
    obtain ⟨r, hr⟩ := addsI_pre n ts (addI n l t)
    exact ⟨q ++ r, by rw [List.foldl_cons, hr, hq, List.append_assoc]⟩

theorem addsI_len (n : Int) (ts l : List Int) : l.length ≤ (ts.foldl (addI n) l).length := by
  obtain ⟨q, hq⟩ := addsI_pre n ts l
  rw [hq, List.length_append]; omega

theorem addsI_mem {n : Int} : ∀ {ts l : List Int} {t : Int}, t ∈ ts → t < n → t ∈ ts.foldl (addI n) l
  | [], _, _, h, _ => by cases h
  | u :: ts, l, t, h, hlt => by
    rcases List.mem_cons.1 h with rfl | h
    · obtain ⟨q, hq⟩ := addsI_pre n ts (addI n l t)
      rw [List.foldl_cons, hq]
      refine List.mem_append.2 (.inl ?_)
      unfold addI
      split
      · simp
      · rename_i hc
        exact Classical.byContradiction fun hm => hc ⟨hlt, hm⟩
    · show t ∈ ts.foldl (addI n) (addI n l u)
      exact addsI_mem h hlt

theorem addsI_good {p : List tInstr} {x : Nat} (hn : ∀ x t, t ∈ nxP p x → 0 ≤ t) (hx : Rch p x) : ∀ (ts l : List Int), (∀ t ∈ ts, t ∈ nxP p (x : Int)) → GoodQ p l → GoodQ p (ts.foldl (addI (p.length : Int)) l)
  | [], _, _, h => h
  | t :: ts, l, ht, h => addsI_good hn hx ts _ (fun t' h' => ht t' (by simp [h'])) (addI_good h (hn _ t (ht t (by simp))) fun hlt => Rch.step x t hx (ht t (by simp)) (hn _ t (ht t (by simp))) hlt)

theorem bfsI_good {p : List tInstr} (hn : ∀ x t, t ∈ nxP p x → 0 ≤ t) : ∀ i, GoodQ p (bfsI p i)
  | 0 => by
    rw [bfsI]
    split
    · rename_i h
      exact ⟨by simp, (fun x hx => by rw [List.mem_singleton.1 hx]; omega), (fun x hx => by rw [List.mem_singleton.1 hx]; exact Rch.zero h)⟩
    · exact ⟨List.nodup_nil, (fun x hx => by cases hx), (fun x hx => by cases hx)⟩
  | i + 1 => by
    have ih := bfsI_good hn i
    rw [bfsI]
    split
    · rename_i h
      have hm : (bfsI p i)[i] ∈ bfsI p i := List.getElem_mem h
      have h0 := ih.rng _ hm
      rw [List.getElem?_eq_getElem h]
      refine addsI_good hn (ih.rch _ hm) _ _ (fun t ht => ?_) ih
      rw [show (((bfsI p i)[i].toNat : Nat) : Int) = (bfsI p i)[i] from by omega]
      exact ht
    · exact ih

theorem rise_up {ys : List Int} (h : ys.Pairwise (· < ·)) (h0 : ∀ y ∈ ys, 0 ≤ y) : ∀ (i : Nat) (hi : i < ys.length), (i : Int) ≤ ys[i] := by
  intro i
  induction i with
  | zero => intro hi; exact h0 _ (List.getElem_mem hi)
  | succ i ih =>
    intro hi
    have h1 := ih (by omega)
    have h2 := List.pairwise_iff_getElem.1 h i (i + 1) (by omega) hi (by omega)
    have h3 : ys[i] < ys[i + 1] := h2
    omega

theorem sortI_lt {xs : List Int} (h : xs.Nodup) : (sortI xs).Pairwise (· < ·) := by
  have hnd : (sortI xs).Nodup := (List.mergeSort_perm xs (fun x y => decide (x ≤ y))).nodup_iff.2 h
  refine List.pairwise_iff_getElem.2 fun a b ha hb hab => ?_
  have h4 := List.pairwise_iff_getElem.1 (sortI_rise xs) a b ha hb hab
  have h5 : (sortI xs)[a] ≠ (sortI xs)[b] := List.pairwise_iff_getElem.1 hnd a b ha hb hab
  omega

theorem GoodQ.len {p : List tInstr} {l : List Int} (h : GoodQ p l) : l.length ≤ p.length := by
  have hl := sortI_len l
  rcases Nat.eq_zero_or_pos l.length with h0 | h0
  · omega
  · have h1 := rise_up (sortI_lt h.nodup) (fun y hy => (h.rng y (sortI_mem.1 hy)).1) (l.length - 1) (by omega)
    have h2 := (h.rng _ (sortI_mem.1 (List.getElem_mem (show l.length - 1 < (sortI l).length by omega)))).2
    omega

theorem bfsI_pre (p : List tInstr) (i : Nat) : ∃ q, bfsI p (i + 1) = bfsI p i ++ q := by
  rw [bfsI]
  split
  · exact addsI_pre _ _ _
  · exact ⟨[], by simp⟩

theorem bfsI_clos (p : List tInstr) : ∀ (i j : Nat), j < i → ∀ (hj : j < (bfsI p i).length), ∀ t ∈ nxP p (bfsI p i)[j], t < (p.length : Int) → t ∈ bfsI p i
  | 0, j, h, _, _, _, _ => absurd h (Nat.not_lt_zero _)
  | i + 1, j, h, hj, t, ht, hlt => by
    obtain ⟨q, hq⟩ := bfsI_pre p i
    by_cases hji : j < (bfsI p i).length
    · have e : (bfsI p (i + 1))[j] = (bfsI p i)[j] := by simp only [hq]; exact List.getElem_append_left hji
      rw [e] at ht
      by_cases hjj : j < i
      · rw [hq]; exact List.mem_append.2 (.inl (bfsI_clos p i j hjj hji t ht hlt))
      · obtain rfl : j = i := by omega
        rw [bfsI, if_pos hji, List.getElem?_eq_getElem hji]
        exact addsI_mem ht hlt
    · exfalso
      have : ¬ i < (bfsI p i).length := by omega
      rw [bfsI, if_neg this] at hj
      exact hji hj

theorem bfsI_zero {p : List tInstr} (h : 0 < p.length) : ∀ i, (0 : Int) ∈ bfsI p i
  | 0 => by rw [bfsI, if_pos h]; simp
  | i + 1 => by
    obtain ⟨q, hq⟩ := bfsI_pre p i
    rw [hq]; exact List.mem_append.2 (.inl (bfsI_zero h i))

/-- The queue worked off holds what can be reached. -/
theorem bfsI_mem {p : List tInstr} (hn : ∀ x t, t ∈ nxP p x → 0 ≤ t) {i : Nat} (hi : (bfsI p i).length ≤ i) {x : Int} : x ∈ bfsI p i ↔ 0 ≤ x ∧ Rch p x.toNat := by
  have hg := bfsI_good hn i
  refine ⟨fun h => ⟨(hg.rng x h).1, hg.rch x h⟩, ?_⟩
  have key : ∀ y : Nat, Rch p y → (y : Int) ∈ bfsI p i := by
    intro y hy
    induction hy with
    | zero h => exact bfsI_zero h i
    | step x t _ ht h0 hlt ih =>
      obtain ⟨j, hj, e⟩ := List.getElem_of_mem ih
      rw [show ((t.toNat : Nat) : Int) = t from by omega]
      exact bfsI_clos p i j (by omega) hj t (by rw [e]; exact ht) hlt
  rintro ⟨h0, hr⟩
  have := key _ hr
  rwa [show ((x.toNat : Nat) : Int) = x from by omega] at this

theorem bfs_kept {p : List tInstr} (hn : ∀ x t, t ∈ nxP p x → 0 ≤ t) {i : Nat} (hi : (bfsI p i).length ≤ i) : sortI (bfsI p i) = keptP p :=
  rise_ext (sortI_lt (bfsI_good hn i).nodup) (trueI_rise _ _) fun x => by rw [sortI_mem, bfsI_mem hn hi, keptP_mem hn]

def atP (p : List tInstr) (k : Int) : tInstr := p[k.toNat]?.getD default

/-- How many of a list are below x. -/
def belowI (old : List Int) (x : Int) : Int := ((old.countP fun y => decide (y < x) : Nat) : Int)

theorem belowI_at : ∀ {xs : List Int}, xs.Pairwise (· < ·) → ∀ (j : Nat) (hj : j < xs.length), belowI xs xs[j] = (j : Int)
  | [], _, j, hj => absurd hj (Nat.not_lt_zero _)
  | x :: xs, h, j, hj => by
    obtain ⟨h1, h2⟩ := List.pairwise_cons.1 h
    unfold belowI
    rcases j with _ | j
    · rw [List.getElem_cons_zero]
      have : (x :: xs).countP (fun y => decide (y < x)) = 0 := by
        refine List.countP_eq_zero.2 fun y hy => ?_
        rcases List.mem_cons.1 hy with rfl | hy
        · simp
        · have := h1 y hy; simp; omega
      rw [this]
    · rw [List.getElem_cons_succ]
      have hj' : j < xs.length := by simpa using hj
      have h3 := belowI_at h2 j hj'
      unfold belowI at h3
      have h4 := h1 xs[j] (List.getElem_mem hj')
      rw [List.countP_cons_of_pos (by simpa using h4)]
      omega

theorem belowI_top {xs : List Int} {n : Int} (h : ∀ x ∈ xs, x < n) : belowI xs n = (xs.length : Int) := by
  unfold belowI
  rw [List.countP_eq_length.2 fun x hx => by simpa using h x hx]

theorem belowI_bd (xs : List Int) (x : Int) : 0 ≤ belowI xs x ∧ belowI xs x ≤ (xs.length : Int) := by
  unfold belowI
  have := List.countP_le_length (p := fun y => decide (y < x)) (l := xs)
  omega

/-- The new places of what is kept, i of them set. -/
def plcI (kept : List Int) (n : Nat) : Nat → List Int
  | 0 => (List.replicate (n + 1) 0).set n (kept.length : Int)
  | i + 1 => (plcI kept n i).set (kept[i]?.getD 0).toNat (i : Int)

theorem plcI_len (kept : List Int) (n : Nat) : ∀ i, (plcI kept n i).length = n + 1
  | 0 => by simp [plcI]
  | i + 1 => by rw [plcI, List.length_set, plcI_len kept n i]

theorem plcI_at {kept : List Int} {n : Nat} (hr : kept.Pairwise (· < ·)) (hb : ∀ x ∈ kept, 0 ≤ x ∧ x < (n : Int)) : ∀ i, i ≤ kept.length → (plcI kept n i)[n]? = some (kept.length : Int) ∧ ∀ (j : Nat) (hj : j < kept.length), j < i → (plcI kept n i)[kept[j].toNat]? = some (j : Int)
  | 0, _ => by
    refine ⟨?_, fun j _ h => absurd h (Nat.not_lt_zero _)⟩
    rw [plcI, List.getElem?_set_self (by simp)]
  | i + 1, hi => by
    obtain ⟨h1, h2⟩ := plcI_at hr hb i (by omega)
    have hk := hb kept[i] (List.getElem_mem _)
    have hl := plcI_len kept n i
    rw [plcI, List.getElem?_eq_getElem (by omega : i < kept.length)]
    refine ⟨?_, fun j hj hji => ?_⟩
    · rw [Option.getD_some, List.getElem?_set_ne (by omega)]; exact h1
    · rw [Option.getD_some]
      by_cases e : j = i
      · subst e; rw [List.getElem?_set_self (by omega)]
      · have hlt : j < i := by omega
        have := List.pairwise_iff_getElem.1 hr j i hj (by omega) hlt
        have h0 := hb kept[j] (List.getElem_mem _)
        rw [List.getElem?_set_ne (by omega)]; exact h2 j hj hlt

def plcF (kept : List Int) (n : Nat) (t : Int) : Int := (plcI kept n kept.length)[t.toNat]?.getD 0

def pruneP (p : List tInstr) : List tInstr × List Int × Int :=
  if validProg p = true then (((keptP p).map (atP p)).map (red (belowI (keptP p))), keptP p, 0) else ([], [], 1)

theorem nxP_bd {p : List tInstr} (h : validProg p = true) : ∀ x t, t ∈ nxP p x → 0 ≤ t ∧ t ≤ (p.length : Int) := by
  intro x t ht
  have key : 0 ≤ (p[x.toNat]?.getD default).2.2.1 ∧ (p[x.toNat]?.getD default).2.2.1 ≤ (p.length : Int) ∧ 0 ≤ (p[x.toNat]?.getD default).2.2.2 ∧ (p[x.toNat]?.getD default).2.2.2 ≤ (p.length : Int) := by
    cases e : p[x.toNat]? with
    | none =>
      rw [Option.getD_none]
      have e1 : (default : tInstr).2.2.1 = 0 := rfl
      have e2 : (default : tInstr).2.2.2 = 0 := rfl
      rw [e1, e2]; omega
    | some y =>
      have h2 := validProg_to h y (List.mem_of_getElem? e)
      rw [Option.getD_some]
      omega
  unfold nxP at ht
  split at ht
  · rw [List.mem_singleton.1 ht]; omega
  · rcases List.mem_cons.1 ht with rfl | ht
    · omega
    · rw [List.mem_singleton.1 ht]; omega

theorem prune_eq {p : List tInstr} (h : validProg p = true) : (keptP p).map (fun k => red (plcF (keptP p) p.length) (atP p k)) = ((keptP p).map (atP p)).map (red (belowI (keptP p))) := by
  have hn : ∀ x t, t ∈ nxP p x → 0 ≤ t := fun x t ht => (nxP_bd h x t ht).1
  have hb : ∀ x ∈ keptP p, 0 ≤ x ∧ x < (p.length : Int) := fun x hx => by
    have h1 := (keptP_mem hn).1 hx
    have h2 := h1.2.lt
    omega
  rw [List.map_map]
  refine List.map_congr_left fun k hk => ?_
  have hk2 := (keptP_mem hn).1 hk
  have hpl : ∀ t ∈ nxP p k, plcF (keptP p) p.length t = belowI (keptP p) t := by
    intro t ht
    obtain ⟨h0, h1⟩ := nxP_bd h k t ht
    have hr : (keptP p).Pairwise (· < ·) := trueI_rise _ _
    have hat := plcI_at hr hb _ (Nat.le_refl _)
    by_cases hlt : t < (p.length : Int)
    · have hm : t ∈ keptP p := (keptP_mem hn).2 ⟨h0, Rch.step k.toNat t hk2.2 (by rw [show ((k.toNat : Nat) : Int) = k from by omega]; exact ht) h0 hlt⟩
      obtain ⟨j, hj, rfl⟩ := List.getElem_of_mem hm
      rw [belowI_at hr j hj]
      unfold plcF
      rw [hat.2 j hj hj]; rfl
    · have e : t = (p.length : Int) := by omega
      rw [e, belowI_top fun x hx => (hb x hx).2]
      unfold plcF
      rw [Int.toNat_natCast, hat.1]; rfl
  have h1 : (atP p k).2.2.1 ∈ nxP p k := by unfold nxP atP; split <;> simp
  have h2 : (atP p k).1 = 1 → (atP p k).2.2.2 ∈ nxP p k := by
    intro e
    unfold nxP
    unfold atP at e ⊢
    rw [if_neg (by rw [e]; omega)]; simp
  show red _ _ = red _ (atP p k)
  unfold red
  rw [hpl _ h1]
  by_cases e : (atP p k).1 = 1
  · rw [if_pos e, if_pos e, hpl _ (h2 e)]
  · rw [if_neg e, if_neg e]

theorem pruneP_ct0 (p : List tInstr) : (ct_SInstr (pruneP p).1 : Int) ≤ 1000000000 := by
  have h1 := cntL_const ct_Instr 4 (pruneP p).1 fun _ => rfl
  have h2 : (pruneP p).1.length ≤ 400 := by
    unfold pruneP
    split
    · rename_i h
      have h3 := trueI_len (seenP p) p.length
      have h4 := (validProg_okP h).1
      simp only [List.length_map]
      unfold keptP; omega
    · simp
  unfold ct_SInstr
  omega

theorem pruneP_ct1 (p : List tInstr) : (ct_L (pruneP p).2.1 : Int) ≤ 1000000000 := by
  have h2 : (pruneP p).2.1.length ≤ 400 := by
    unfold pruneP
    split
    · rename_i h
      have h3 := trueI_len (seenP p) p.length
      have h4 := (validProg_okP h).1
      simp only
      unfold keptP; omega
    · simp
  have h1 := ct_L_len (pruneP p).2.1
  omega

def binI (l : List Int) (x : Int) : Int × Bool := (belowI l x, l.contains x)

def redirB (x : List tInstr) (old : List Int) : List tInstr := x.map (red (belowI old))

theorem keptP_bd {p : List tInstr} (h : validProg p = true) : ∀ x ∈ keptP p, 0 ≤ x ∧ x < (p.length : Int) := fun x hx => by
  have h1 := (keptP_mem fun x t ht => (nxP_bd h x t ht).1).1 hx
  have h2 := h1.2.lt
  omega

theorem keptP_len (p : List tInstr) : (keptP p).length ≤ p.length := trueI_len _ _

theorem keptP_rise (p : List tInstr) : (keptP p).Pairwise (· < ·) := trueI_rise _ _

theorem nxP_nn {p : List tInstr} (h : validProg p = true) : ∀ x t, t ∈ nxP p x → 0 ≤ t := fun x t ht => (nxP_bd h x t ht).1

theorem BinSearch_Int64 (A : Option Addr) (c : Nat) (a : List Int) (x : Int) (w : World) (h : Sl eInt w (Old w) A c a) (s0 : a.length ≤ 1000000000) (s1 : a.Pairwise (· < ·)) (s2 : a ≠ []) :
    Calls Try.prog 57 #[.slice A a.length c, .int .i64 x] w fun e w' => e = .returned (.tuple #[.int .i64 (binI a x).1, .bool (binI a x).2]) ∧ Below w.heap.size w w' := by
  obtain ⟨b, off, rfl, _, hc⟩ := h.2.2 s2
  refine (show Calls Try.prog 57 #[.slice (some ⟨b, off, none⟩) a.length c, .int .i64 x] w _ from AnyG.slices_BinarySearch_int shelf_bsearch b off a.length c a x w (Nat.le_refl _) (by omega) (fun j hj => ?_) ?_).mono ?_
  · obtain ⟨es, ⟨rfl, _⟩, h2⟩ := hc j a[j] (List.getElem?_eq_getElem hj)
    have := h2 0 _ rfl
    rw [show off + j * eInt.size + 0 = off + j from by simp [eInt]] at this
    rw [this, List.getD_eq_getElem?_getD, List.getElem?_eq_getElem hj]; rfl
  · rw [List.take_of_length_le (Nat.le_refl _)]
    exact s1.imp fun h => by omega
  · rintro e w' ⟨rfl, q, rfl⟩
    refine ⟨?_, below_drewN (Below.refl _ _) q⟩
    rw [List.take_of_length_le (Nat.le_refl _)]; rfl

theorem sortI_uniq {o xs : List Int} (h : o.Pairwise (· ≤ ·)) (hp : o.Perm xs) : sortI xs = o :=
  List.Perm.eq_of_pairwise (le := fun x y : Int => x ≤ y) (fun a b _ _ h1 h2 => by omega) (sortI_rise xs) h ((List.mergeSort_perm xs _).trans hp.symm)

theorem ins_ok {o : List Int} {x : Int} {j : Nat} (h : o.Pairwise (· ≤ ·)) (hj : j ≤ o.length) (h1 : j = 0 ∨ o[j - 1]?.getD 0 ≤ x) (h2 : ∀ i, j ≤ i → i < o.length → x < o[i]?.getD 0) : (o.take j ++ x :: o.drop j).Pairwise (· ≤ ·) ∧ (o.take j ++ x :: o.drop j).Perm (x :: o) := by
  have hlow : ∀ a ∈ o.take j, a ≤ x := by
    intro a ha
    obtain ⟨i, hi, rfl⟩ := List.getElem_of_mem ha
    rw [List.length_take] at hi
    rw [List.getElem_take]
    rcases h1 with h1 | h1
    · omega
    · rw [List.getElem?_eq_getElem (by omega : j - 1 < o.length), Option.getD_some] at h1
      by_cases e : i = j - 1
      · subst e; exact h1
      · have := List.pairwise_iff_getElem.1 h i (j - 1) (by omega) (by omega) (by omega)
        omega
  have hup : ∀ b ∈ o.drop j, x ≤ b := by
    intro b hb
    obtain ⟨i, hi, rfl⟩ := List.getElem_of_mem hb
    rw [List.length_drop] at hi
    have := h2 (j + i) (by omega) (by omega)
    rw [List.getElem?_eq_getElem (by omega : j + i < o.length), Option.getD_some] at this
    rw [List.getElem_drop]; omega
  refine ⟨List.pairwise_append.2 ⟨h.sublist (List.take_sublist j o), List.pairwise_cons.2 ⟨hup, h.sublist (List.drop_sublist j o)⟩, fun a ha b hb => ?_⟩, ?_⟩
  · have h3 := hlow a ha
    rcases List.mem_cons.1 hb with rfl | hb
    · exact h3
    · have := hup b hb; omega
  · refine List.perm_middle.trans ?_
    rw [List.take_append_drop]

theorem ins_step {o : List Int} {x : Int} {j : Nat} (h : ∀ i, j ≤ i → i < o.length → x < o[i]?.getD 0) (h1 : x < o[j - 1]?.getD 0) : ∀ i, j - 1 ≤ i → i < o.length → x < o[i]?.getD 0 := by
  intro i hi hl
  by_cases e : i = j - 1
  · rw [e]; exact h1
  · exact h i (by omega) hl

theorem take_snocI {α : Type} {l : List α} {k : Nat} {x : α} (h : l[k]? = some x) : l.take (k + 1) = l.take k ++ [x] := by
  obtain ⟨hk, rfl⟩ := List.getElem?_eq_some_iff.1 h
  exact List.take_succ_eq_append_getElem hk

theorem perm_snocI {o : List Int} {x : Int} {xs : List Int} {k : Nat} (h : o.Perm (xs.take k)) (hx : xs[k]? = some x) : (x :: o).Perm (xs.take (k + 1)) := by
  rw [take_snocI hx]
  exact (List.Perm.cons x h).trans (List.perm_append_comm (l₁ := [x]))

theorem ins_fin {o xs : List Int} {k j v : Nat} {e : Int} (h1 : o.Pairwise (· ≤ ·)) (h2 : o.Perm (xs.take k)) (hj : j ≤ o.length) (hv : v = j) (he : xs[k]? = some e) (hlow : j = 0 ∨ o[j - 1]?.getD 0 ≤ e) (hup : ∀ i, j ≤ i → i < o.length → xs[k]?.getD 0 < o[i]?.getD 0) :
    ((shR o 0 v).set j e).Pairwise (· ≤ ·) ∧ ((shR o 0 v).set j e).Perm (xs.take (k + 1)) := by
  subst hv
  rw [he, Option.getD_some] at hup
  rw [shR_set _ _ _ hj]
  obtain ⟨h3, h4⟩ := ins_ok h1 hj hlow hup
  exact ⟨h3, h4.trans (perm_snocI h2 he)⟩

theorem bfsI_fold {p : List tInstr} (hn : ∀ x t, t ∈ nxP p x → 0 ≤ t) {i : Nat} {y : Int} (hy : (bfsI p i)[i]? = some y) (k : Nat) : GoodQ p (((nxP p y).take k).foldl (addI (p.length : Int)) (bfsI p i)) := by
  have hq := bfsI_good hn i
  have hm := List.mem_of_getElem? hy
  have h0 := hq.rng y hm
  refine addsI_good (x := y.toNat) hn (hq.rch y hm) _ _ (fun t ht => ?_) hq
  rw [show ((y.toNat : Nat) : Int) = y from by omega]
  exact List.mem_of_mem_take ht

theorem bfsI_next {p : List tInstr} {i k : Nat} {y : Int} (hy : (bfsI p i)[i]? = some y) (hk : (nxP p y).length ≤ k) : bfsI p (i + 1) = ((nxP p y).take k).foldl (addI (p.length : Int)) (bfsI p i) := by
  rw [bfsI, if_pos (List.getElem?_eq_some_iff.1 hy).1, hy, List.take_of_length_le hk]; rfl

end Go.Proofs.Ythfihlfjphiihaa
