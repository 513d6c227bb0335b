/- What the proof of FnExactPowersSeen needs: contracts of the functions that it reaches, each once. -/
import Derived.Test.YtnokeoejlfodkaaProg
import Derived.Test.YtnokeoejlfodkaaQMem
import Derived.Test.YtnokeoejlfodkaaQOpen
import Derived.Test.YtnokeoejlfodkaaLPowersSeena
import Derived.WalkKit
import Derived.WalkSpells
import Derived.Below
import Derived.LoopTactic
import Derived.Outline
import Derived.Deep.QuietTactic
import Derived.BigQuiet
import Derived.Deep.LoopGhost
import Derived.Handy
import Derived.Lib.Hide
import Derived.Shelf.Abstract
import Derived.StillTailTactics
import Derived.OwnWalk
import Derived.Maps.AppendAt
import Derived.RegionTactic
import Derived.Deep.RegionHeld3
import Derived.IntWalk
import Derived.Deep.Upon
import Derived.Laws.OwnMore
import Derived.Maps.AppendAt
import Derived.Lib.SliceRun
import Derived.Lib.AppendZeros
namespace Go.Proofs.Ytnokeoejlfodkaa
open Go.RowKit

theorem wpList_append_row {α : Type} {P : Program} {E : Enc α} {enc : α → List Value} (hf : Flat E enc) {t e : TypeId} {bytes : Nat} (he : Elem P E t e bytes) {ops : Array Oper} {rest : List Oper} {o : Oper} {a : Act} {Q : Exit → Act → World → Prop} {w : World} (hgd : o.guard = none) (s x : Operand)
    (ho : o.op = .call { callee := .builtin .append, args := #[s, x], argTypes := #[t, t] }) {base : Nat} {v : Value} {xs ys : List α} (hs : a.eval s = v) (hR : Row E enc e w base v xs)
    {S : Nat → Prop} {A : Option Addr} {c : Nat} (hx : a.eval x = .slice A ys.length c) (hS : Sl E w S A c ys) (h63 : xs.length + ys.length ≤ maxLen) (hbytes : (xs.length + ys.length) * bytes ≤ 140737488355328) (hbase : base ≤ w.heap.size)
    (h : ∀ v' w', Row E enc e w' base v' (xs ++ ys) → w.grownBy w' v.ownBlock → (v'.ownBlock = v.ownBlock ∨ v'.ownBlock = some w.heap.size) → wpList P ops Q rest (a.put o.dst v') w') :
    wpList P ops Q (o :: rest) a w := by
  refine wpList_plain hgd fun K hK => ?_
  obtain ⟨v', w', hr, h2, h3, h4⟩ := run_append_row hf he o.type hR hS h63 hbytes hbase
  unfold Oper.wp execOp
  simp only [ho, resolve, invoke, builtin, Sem.run_bind, Sem.run_pure, Result.andThen_ok, List.map_toArray, List.map_cons, List.map_nil, hs, hx, hr]
  exact hK _ _ (h v' w' h2 h3 h4)

theorem So.take {α : Type} {E : Enc α} {w : World} {S : Nat → Prop} {A : Option Addr} {c : Nat} {xs : List α} (h : So E w S A c xs) (k : Nat) : So E w S A c (xs.take k) :=
  ⟨by have := h.1; rw [List.length_take]; omega, h.2.1, fun hn => by
    obtain ⟨b, off, t, cur, T, hA, hb, hB, hT, hd, hc⟩ := h.2.2 (by rintro rfl; simp at hn)
    refine ⟨b, off, t, cur, T, hA, hb, hB, hT, hd, fun i x hx => hc i x ?_⟩
    rw [List.getElem?_take] at hx
    split at hx
    · exact hx
    · cases hx⟩

theorem Sl.take {α : Type} {E : Enc α} {w : World} {S : Nat → Prop} {A : Option Addr} {c : Nat} {xs : List α} (h : Sl E w S A c xs) (k : Nat) : Sl E w S A c (xs.take k) :=
  ⟨by have := h.1; rw [List.length_take]; omega, h.2.1, fun hn => by
    obtain ⟨b, off, hA, hb, hc⟩ := h.2.2 (by rintro rfl; simp at hn)
    refine ⟨b, off, hA, hb, fun i x hx => hc i x ?_⟩
    rw [List.getElem?_take] at hx
    split at hx
    · exact hx
    · cases hx⟩

/-- One number of an owned slice rewritten. -/
theorem So.setI {w : World} {S : Nat → Prop} {b off c : Nat} {xs : List Int} (h : So eInt w S (some ⟨b, off, none⟩) c xs) {k : Nat} (hk : k < xs.length) {y : Int} (hy : I64 y) : So eInt (w.setCell ⟨b, off + k, none⟩ (.int .i64 y)) S (some ⟨b, off, none⟩) c (xs.set k y) := by
  obtain ⟨b', off', t, cur, T, es, hA, hb, hB, hT, hO, hcells, hre⟩ := h.at hk
  simp only [Option.some.injEq, Addr.mk.injEq, and_true] at hA
  obtain ⟨rfl, rfl⟩ := hA
  refine hre _ [.int .i64 y] y ⟨rfl, hy⟩ ?_ (fun m hm hne _ => Below.heap_setCell _ _ _ _ hne)
  rw [show off + k * eInt.size = off + k from by show off + k * 1 = _; omega]
  exact hB.set _ _

/-- What an owned slice of numbers holds, and that it may be written. -/
theorem So.getI {w : World} {S : Nat → Prop} {A : Option Addr} {c : Nat} {xs : List Int} (h : So eInt w S A c xs) {k : Nat} (hk : k < xs.length) : ∃ b off, A = some ⟨b, off, none⟩ ∧ S b ∧ I64 xs[k] ∧ w.cell? ⟨b, off + k, none⟩ = some (.int .i64 xs[k]) ∧ w.frozen? ⟨b, off + k, none⟩ = false := by
  obtain ⟨b, off, t, cur, T, es, rfl, hb, hB, hT, hO, hcells, _⟩ := h.at hk
  obtain ⟨rfl, hi⟩ := hO
  refine ⟨b, off, rfl, hb, hi, ?_, hB.frozen _⟩
  have := hcells 0 _ rfl
  rw [show off + k * eInt.size + 0 = off + k from by show off + k * 1 + 0 = _; omega] at this
  rw [hB.cell]; exact this

def evp (L : List (Nat × Value)) : List (Nat × Operand) → Option (List (Nat × Value))
  | [] => some []
  | (i, x) :: xs => match ev L x, evp L xs with
    | some v, some vs => some ((i, v) :: vs)
    | _, _ => none

theorem evp_map {n : Nat} {L : List (Nat × Value)} {a : Act} (hE : Env n L a) : ∀ (xs : List (Nat × Operand)) (vs : List (Nat × Value)), evp L xs = some vs → (xs.map fun p => (p.1, a.eval p.2)) = vs
  | [], vs, h => by simp [evp] at h; subst h; rfl
  | (i, x) :: xs, vs, h => by
    simp only [evp] at h
    cases h1 : ev L x with
    | none => simp [h1] at h
    | some v =>
      cases h2 : evp L xs with
      | none => simp [h1, h2] at h
      | some us =>
        simp [h1, h2] at h
        subst h
        rw [List.map_cons, hE.ev h1, evp_map hE xs us h2]

theorem foldl_setAll (off : Nat) : ∀ (vs : List Value) (k : Nat) (cs : Array Value), (vs.zipIdx k).foldl (fun cs (p : Value × Nat) => cs.setIfInBounds (off + p.2) p.1) cs = setAll cs (off + k) vs
  | [], _, _ => rfl
  | v :: vs, k, cs => by
    rw [List.zipIdx_cons, List.foldl_cons, foldl_setAll off vs (k + 1)]
    rfl

theorem setAll_split (pre mid post vs : List Value) (h : mid.length = vs.length) : setAll (pre ++ mid ++ post).toArray pre.length vs = (pre ++ vs ++ post).toArray := by
  apply Array.ext_getElem?
  intro i
  rw [get_setAll _ _ _ _ (by simp; omega)]
  by_cases h1 : pre.length ≤ i ∧ i < pre.length + vs.length
  · rw [if_pos h1]
    simp only [List.getElem?_toArray]
    rw [List.append_assoc, List.getElem?_append_right h1.1, List.getElem?_append_left (by omega)]
  · rw [if_neg h1]
    simp only [List.getElem?_toArray, List.append_assoc]
    by_cases h2 : i < pre.length
    · rw [List.getElem?_append_left h2, List.getElem?_append_left h2]
    · rw [List.getElem?_append_right (by omega), List.getElem?_append_right (by omega), List.getElem?_append_right (by omega), List.getElem?_append_right (by omega), h]

def numb (j : Nat) : List Value → List (Nat × Value)
  | [] => []
  | v :: vs => (j, v) :: numb (j + 1) vs

theorem fill_all (sz : Nat) : ∀ (vs : List Value) (j : Nat) (pre post : List Value), pre.length = j * sz → post.length = vs.length * sz → (∀ v ∈ vs, v.cells.size = sz) → Instr.fill (fun i => some (i * sz, sz)) (pre ++ post).toArray (numb j vs) = some (pre ++ (vs.map fun v => v.cells.toList).flatten).toArray
  | [], j, pre, post, _, h2, _ => by
    have : post = [] := List.eq_nil_of_length_eq_zero (by simpa using h2)
    subst this; simp [numb, Instr.fill]
  | v :: vs, j, pre, post, h1, h2, h3 => by
    have hv := h3 v (by simp)
    rw [List.length_cons, Nat.succ_mul] at h2
    have hsp : post = post.take sz ++ post.drop sz := (List.take_append_drop sz post).symm
    have hl : (post.take sz).length = v.cells.toList.length := by rw [List.length_take]; simp [hv]; omega
    have hset := setAll_split pre (post.take sz) (post.drop sz) v.cells.toList hl
    have ih := fill_all sz vs (j + 1) (pre ++ v.cells.toList) (post.drop sz) (by simp [h1, hv, Nat.succ_mul]) (by rw [List.length_drop]; omega) (fun u hu => h3 u (by simp [hu]))
    have hfold : v.cells.zipIdx.foldl (fun cs (p : Value × Nat) => cs.setIfInBounds (j * sz + p.2) p.1) (pre ++ post).toArray = (pre ++ v.cells.toList ++ post.drop sz).toArray := by
      rw [← Array.foldl_toList, Array.toList_zipIdx, foldl_setAll, Nat.add_zero, ← h1, ← hset, List.append_assoc, ← hsp]
    have hle : ¬ ((pre ++ post).toArray.size < j * sz + sz) := by simp; omega
    have hc : (v.cells.size ≠ sz || decide (j * sz + v.cells.size > (pre ++ post).toArray.size)) = false := by
      rw [hv]; simp; omega
    simp only [numb, Instr.fill]
    rw [if_neg (by rw [hc]; simp)]
    rw [show (v.cells.zipIdx.foldl (fun cs x => match x with | (c, j_1) => cs.setIfInBounds (j * sz + j_1) c) (pre ++ post).toArray) = (pre ++ v.cells.toList ++ post.drop sz).toArray from hfold, ih]
    simp

/-- A slice literal, all of its elements given. -/
theorem run_lit {P : Program} {n m : Nat} {a : Act} {L : List (Nat × Value)} {w : World} {t e : TypeId} {sz by_ : Nat} {ps : List (Nat × Operand)} {vs : List Value} {cs : List Value} {d : Option Tmp} {ty : TypeId} {pos : String} {af : Array Edge} {g : Option (Nat × Bool)} (hT : TSl P t e sz by_) (hE : Env n L a) (he : evp L ps = some (numb 0 vs)) (hm : vs.length = m) (hv : ∀ v ∈ vs, v.cells.size = sz) (hcs : (vs.map fun v => v.cells.toList).flatten = cs) (hb : m * sz ≤ 16777216) :
    (execOp a.eval ⟨d, .buildSlice t m ps.toArray, ty, pos, af, g⟩).run P w = .ok (.value (.slice (some ⟨w.heap.size, 0, none⟩) m m)) (w.alloc (.cells cs.toArray e)) := by
  obtain ⟨i, z, e1, e2, e3, e4, e5⟩ := hT.info
  subst hm hcs
  have hE' := evp_map hE ps _ he
  have hb' : ¬ (vs.length * i.size > 2 ^ 24) := by rw [e3]; omega
  have key : ∀ zero : Array Value, Instr.fill (fun i_1 => some (i_1 * i.size, i.size)) ((Array.range (vs.length * i.size)).map (zero[· % zero.size]!)) (numb 0 vs) = some (vs.map fun v => v.cells.toList).flatten.toArray := by
    intro zero
    have := fill_all sz vs 0 [] ((Array.range (vs.length * i.size)).map (zero[· % zero.size]!)).toList (by simp) (by simp [e3]) hv
    simp only [List.nil_append, Array.toArray_toList] at this
    rw [e3] at this ⊢; exact this
  simp only [execOp, Instr.buildSlice, List.map_toArray, hE', Sem.run_bind, run_underlying hT.under, Result.andThen_ok, sizeOf, typeInfo, run_program, e1, Sem.run_pure, hb', if_false]
  by_cases h0 : vs.length * i.size = 0
  · simp [h0, newRow] at key ⊢
    have := key #[]
    simp at this
    simp [this]
  · simp [h0, zeroValue, typeInfo, e1, e2, newRow, key]

theorem lkI {t : Nat} {L : List (Nat × Value)} {q : IntKind} {x y : Int} (h : lk t L = some (.int q x)) (e : x = y) : lk t L = some (.int q y) := e ▸ h

theorem Held.to {M : Nat → Prop} {w0 : World} {rs rs' : List Res} {w : World} (h : Held M w0 rs w) (e : rs = rs') : Held M w0 rs' w := e ▸ h

theorem Held.flatO {M : Nat → Prop} {w0 : World} {rs : List Res} {w : World} (h : Held M w0 rs w) {α : Type} {E : Enc α} {cs : List Value} {x : α} (ho : ∀ W, E.O W Nob cs x) : Held M w0 (rO E Nob cs x :: rs) w := h.new (Below.refl _ _) (rO E Nob cs x) (ho w) fun _ h => h.elim

theorem c_ownI {M : Nat → Prop} {w0 : World} {rs : List Res} {S : Nat → Prop} {b off c k : Nat} {xs : List Int} (i : Nat) (hi : rs[i]? = some (rSo eInt S (some ⟨b, off, none⟩) c xs)) (hk : k < xs.length) : ∀ w, Held M w0 rs w → w.cell? ⟨b, off + k * 1, none⟩ = some (.int .i64 xs[k]) := fun w h => by
  obtain ⟨b', off', es, hA, _, hR, hc⟩ := (h.sl hi).at1 rfl hk
  simp only [Option.some.injEq, Addr.mk.injEq, and_true] at hA
  obtain ⟨rfl, rfl⟩ := hA
  obtain ⟨rfl, _⟩ := hR
  rw [Nat.mul_one]; exact hc _ rfl

theorem i_ownI {M : Nat → Prop} {w0 w : World} {rs : List Res} {S : Nat → Prop} {A : Option Addr} {c k : Nat} {xs : List Int} (h : Held M w0 rs w) (i : Nat) (hi : rs[i]? = some (rSo eInt S A c xs)) (hk : k < xs.length) : I64 xs[k] := by
  obtain ⟨b', off', es, hA, _, hR, hc⟩ := (h.sl hi).at1 rfl hk
  exact hR.2

/-- A store into an owned slice of numbers. -/
theorem st_storeI {P : Program} {ops : Array Oper} {Q : Exit → Act → World → Prop} {a : Act} {w : World} {K : Act → World → Prop} {n : Nat} {L : List (Nat × Value)} {M : Nat → Prop} {w0 : World} {rs : List Res} {t : TypeId} {z0 : Value} {x y : Operand} {S : Nat → Prop} {b off c k : Nat} {xs : List Int} {m : Int} {ty : TypeId} {pos : String} {af : Array Edge} {gd : Option (Nat × Bool)} (i : Nat) (hE : Env n L a) (hH : Held M w0 rs w) (ht : TV P t false [z0]) (hx : ev L x = some (.pointer (some ⟨b, off + k * 1, none⟩))) (hy : ev L y = some (.int .i64 m)) (hi : rs[i]? = some (rSo eInt S (some ⟨b, off, none⟩) c xs)) (hk : k < xs.length) (hm : I64 m) (hw : Region.wanted ⟨none, .store t x y, ty, pos, af, gd⟩ (yielded ops a.tmps) = true)
    (kk : ∀ w', Held M w0 (rs.set i (rSo eInt S (some ⟨b, off, none⟩) c (xs.set k m))) w' → K a w') : Stp P ops Q ⟨none, .store t x y, ty, pos, af, gd⟩ a w K := by
  have hso := so_of_o (hH.get hi)
  obtain ⟨b', off', hA, hb, _, hc, hf⟩ := hso.getI hk
  simp only [Option.some.injEq, Addr.mk.injEq, and_true] at hA
  obtain ⟨rfl, rfl⟩ := hA
  have h2 := hso.setI hk hm
  have hlen : (xs.set k m).length = xs.length := List.length_set
  have h3 : Held M w0 (rs.set i (rSo eInt S (some ⟨b, off, none⟩) c (xs.set k m))) (w.setCell ⟨b, off + k, none⟩ (.int .i64 m)) := hH.mut hi ((Chg.refl _ _).set (by exact hb) _) (rSo eInt S (some ⟨b, off, none⟩) c (xs.set k m)) (oSl h2) fun b hb => .inl hb
  refine st_skip hw ?_ rfl (kk _ h3)
  obtain ⟨ii, z, e1, _, e3, _⟩ := ht.info
  rw [Nat.mul_one] at hx
  simp only [execOp, hE.ev hx, hE.ev hy, Instr.storeAt, Instr.sureAddr, storeVar, sizeOf, typeInfo, Sem.run_bind, Sem.run_pure, Result.andThen_ok, run_program, e1]
  have e3' : ii.size = 1 := e3
  have hs : (Go.store ⟨b, off + k, none⟩ (.int .i64 m)).run P w = .ok () (w.setCell ⟨b, off + k, none⟩ (.int .i64 m)) := by simp [Go.store, Sem.run, hc, hf]
  simp [Value.cells, e3', storeCells, add_none, hs]

theorem tv_parts {P : Program} {t : TypeId} {z : Value} {n : Nat} (h : (P.info? t).map (fun i => (i.zero, i.size)) = some (some z, n)) : ∃ i, P.info? t = some i ∧ i.zero = some z ∧ i.size = n := by
  cases hi : P.info? t with
  | none => rw [hi] at h; cases h
  | some i =>
    rw [hi] at h
    simp only [Option.map_some, Option.some.injEq, Prod.mk.injEq] at h
    exact ⟨i, rfl, h.1, h.2⟩

theorem ts_parts {P : Program} {t : TypeId} {z : Value} {n b : Nat} (h : (P.info? t).map (fun i => (i.zero, i.size, i.bytes)) = some (some z, n, b)) : ∃ i, P.info? t = some i ∧ i.zero = some z ∧ i.size = n ∧ i.bytes = b := by
  cases hi : P.info? t with
  | none => rw [hi] at h; cases h
  | some i =>
    rw [hi] at h
    simp only [Option.map_some, Option.some.injEq, Prod.mk.injEq] at h
    exact ⟨i, rfl, h.1, h.2.1, h.2.2⟩

theorem so_rep {α : Type} {E : Enc α} {w : World} {g : Nat} {t : TypeId} {n : Nat} {v : Value} {x : α} (h1 : E.size = 1) (hO : ∀ W, E.O W Nob [v] x) (hB : Blk w g t (List.replicate n v).toArray) (hm : n ≤ maxLen) : So E w (fun b => b = g) (some ⟨g, 0, none⟩) n (List.replicate n x) :=
  ⟨by simp, hm, fun _ => ⟨g, 0, t, _, fun _ _ => False, rfl, rfl, hB, fun _ _ h => h.elim, fun _ _ _ h => h.elim, fun i y hy => by
    have hi := (List.getElem?_eq_some_iff.1 hy).1
    rw [List.length_replicate] at hi
    rw [List.getElem?_replicate_of_lt hi] at hy
    simp at hy; subst hy
    refine ⟨[v], E.omore (hO w) fun _ h => h.elim, fun j u hu => ?_⟩
    rcases j with _ | j
    · simp at hu; subst hu
      rw [h1]; simp [hi]
    · simp at hu⟩⟩

/-- make, of flat elements of one cell. -/
theorem st_make {P : Program} {ops : Array Oper} {Q : Exit → Act → World → Prop} {a : Act} {w : World} {K : Act → World → Prop} {n d : Nat} {L : List (Nat × Value)} {M : Nat → Prop} {w0 : World} {rs : List Res} {α : Type} {E : Enc α} {t e : TypeId} {by_ : Nat} {v : Value} {x : α} {y1 y2 : Operand} {k : Nat} {m m2 : Int} {ty : TypeId} {pos : String} {af : Array Edge} {gd : Option (Nat × Bool)} (hE : Env n L a) (hH : Held M w0 rs w) (ht : TSl P t e 1 by_) (hv : TV P e false [v]) (h1 : E.size = 1) (hO : ∀ W, E.O W Nob [v] x) (hy1 : ev L y1 = some (.int .i64 m)) (hy2 : ev L y2 = some (.int .i64 m2)) (hm : m = (k : Int)) (hm2 : m2 = (k : Int)) (hk : k * by_ ≤ 140737488355328) (hk1 : k ≤ 1000000000000) (hw : Region.wanted ⟨some d, .makeSlice t y1 y2, ty, pos, af, gd⟩ (yielded ops a.tmps) = true) (hn : Nat.blt d n = true)
    (kk : ∀ q a' w', Env n ((d, .slice (some ⟨q, 0, none⟩) (List.replicate k x).length k) :: L) a' → Held M w0 (rSo E (fun b => b = q) (some ⟨q, 0, none⟩) k (List.replicate k x) :: rs) w' → K a' w') : Stp P ops Q ⟨some d, .makeSlice t y1 y2, ty, pos, af, gd⟩ a w K := by
  obtain ⟨i, z, e1, e2, e3, e4, e5⟩ := ht.info
  obtain ⟨i', z', f1, f2, f3, f4⟩ := hv.info
  have hii : i' = i := by rw [e1] at f1; exact (Option.some.inj f1).symm
  subst hii
  have hzz : z' = z := by rw [e2] at f2; exact (Option.some.inj f2).symm
  subst hzz
  subst hm hm2
  have hmade : madeCells #[v] k = (List.replicate k v).toArray := by
    apply Array.ext
    · simp [madeCells]
    · intro j h1 h2
      have : j % 1 = 0 := Nat.mod_one j
      simp [madeCells, this]
  have hb1 : (i'.bytes : Int) * (k : Int) ≤ 281474976710656 := by
    have h : ((i'.bytes * k : Nat) : Int) ≤ 281474976710656 := by rw [e4, Nat.mul_comm]; omega
    rwa [Int.natCast_mul] at h
  have hr := run_make (P := P) w t e i' z' ht.under e1 e2 .i64 .i64 k k (by omega) (Int.le_refl _) hb1 (by omega)
  simp only [Int.toNat_natCast, e3, Nat.mul_one, f4] at hr
  have hrun : (execOp a.eval ⟨some d, .makeSlice t y1 y2, ty, pos, af, gd⟩).run P w = .ok (.value (.slice (some ⟨w.heap.size, 0, none⟩) k k)) (w.alloc (.cells (List.replicate k v).toArray e)) := by
    rw [← hmade]
    simp only [execOp, hE.ev hy1, hE.ev hy2, Sem.run_bind]
    rw [show ([v].toArray) = #[v] from rfl] at hr
    rw [hr]; rfl
  refine st_val hE hw hrun rfl hn fun a' hE' => ?_
  have hB := hH.alloc e (List.replicate k v)
  refine kk w.heap.size a' _ (by rw [List.length_replicate]; exact hE') ?_
  refine hB.turn _ (fun hb => ?_) fun _ hb => hb
  exact oSl (so_rep h1 hO hb (by unfold maxLen; omega))

theorem Env.castI {n t : Nat} {L : List (Nat × Value)} {a : Act} {q : IntKind} {x y : Int} (h : Env n L a) (hl : lk t L = some (.int q x)) (e : x = y) : Env n ((t, .int q y) :: L) a :=
  h.sub' fun s v hv => by
    simp only [lk] at hv
    by_cases hs : Nat.beq s t = true
    · rw [hs] at hv
      have hs' := Nat.eq_of_beq_eq_true hs
      subst hs' e
      simp at hv
      rw [hl, hv]
    · have hs' : Nat.beq s t = false := Bool.eq_false_iff.2 hs
      rw [hs'] at hv; exact hv

/-- A captured variable's cell, as a closure sees it. -/
theorem Held.capB {M : Nat → Prop} {w0 : World} {rs : List Res} {w W : World} {g : Nat} {t : TypeId} {cs : List Value} (h : Held M w0 rs w) (i : Nat) (hi : rs[i]? = some (rBlk g t cs)) (hb : Below w.heap.size w W) : ∀ j v, cs[j]? = some v → W.cell? ⟨g, 0 + j, none⟩ = some v := fun j v hv => by
  have hlt := (h.rng _ (List.mem_of_getElem? hi) g rfl).2
  rw [hb.cell (p := ⟨g, 0 + j, none⟩) hlt]
  exact c_blkN i hi w h j v hv

theorem Env.castS {n t m m' c : Nat} {A : Option Addr} {L : List (Nat × Value)} {a : Act} (h : Env n L a) (hl : lk t L = some (.slice A m c)) (e : m = m') : Env n ((t, .slice A m' c) :: L) a :=
  h.sub' fun s v hv => by
    simp only [lk] at hv
    by_cases hs : Nat.beq s t = true
    · rw [hs] at hv
      have hs' := Nat.eq_of_beq_eq_true hs
      subst hs' e
      simp at hv
      rw [hl, hv]
    · have hs' : Nat.beq s t = false := Bool.eq_false_iff.2 hs
      rw [hs'] at hv; exact hv

/-- What was there, outside M. -/
def Out (M : Nat → Prop) (w : World) (b : Nat) : Prop := b < w.heap.size ∧ ¬ M b

/-- The blocks of some parts. -/
def Foot (xs : List Res) (b : Nat) : Prop := ∃ r ∈ xs, r.S b

theorem Held.startM {w : World} {α : Type} {E : Enc α} {S : Nat → Prop} {cs : List Value} {x : α} (ho : E.O w S cs x) (hS : ∀ b, S b → b < w.heap.size) : Held S w [rO E S cs x] w :=
  ⟨Chg.refl _ _, (fun r hr => by simp at hr; subst hr; exact ho), (fun r hr b hb => by simp at hr; subst hr; exact ⟨.inl hb, hS b hb⟩), by simp⟩

theorem Held.focus {M0 : Nat → Prop} {w0 : World} {xs rs : List Res} {w : World} (h : Held M0 w0 (xs ++ rs) w) : Held (Foot xs) w xs w :=
  ⟨Chg.refl _ _, fun r hr => h.ok r (by simp [hr]), fun r hr b hb => ⟨.inl ⟨r, hr, hb⟩, (h.rng r (by simp [hr]) b hb).2⟩, (List.pairwise_append.1 h.sep).1⟩

theorem Held.back {M0 : Nat → Prop} {w0 : World} {xs ys rs : List Res} {w w' : World} (h : Held M0 w0 (xs ++ rs) w) (h' : Held (Foot xs) w ys w') : Held M0 w0 (ys ++ rs) w' where
  chg := by
    refine ⟨h'.chg.os.trans h.chg.os, h'.chg.tape.trans h.chg.tape, h'.chg.output.trans h.chg.output, Nat.le_trans h.chg.size h'.chg.size, fun k hk hM => ?_⟩
    refine (h'.chg.block k (Nat.lt_of_lt_of_le hk h.chg.size) ?_).trans (h.chg.block k hk hM)
    rintro ⟨r, hr, hb⟩
    rcases (h.rng r (by simp [hr]) k hb).1 with q | q
    · exact hM q
    · omega
  ok := by
    intro r hr
    rcases List.mem_append.1 hr with hr | hr
    · exact h'.ok r hr
    · refine r.loc w w' (fun b hb => h'.chg.block b (h.rng r (by simp [hr]) b hb).2 ?_) (h.ok r (by simp [hr]))
      rintro ⟨s, hs, hb'⟩
      exact (List.pairwise_append.1 h.sep).2.2 s hs r hr b hb' hb
  rng := by
    intro r hr b hb
    rcases List.mem_append.1 hr with hr | hr
    · obtain ⟨h1, h2⟩ := h'.rng r hr b hb
      refine ⟨?_, h2⟩
      rcases h1 with ⟨s, hs, hb'⟩ | h1
      · exact (h.rng s (by simp [hs]) b hb').1
      · exact .inr (Nat.le_trans h.size h1)
    · have h1 := h.rng r (by simp [hr]) b hb
      exact ⟨h1.1, Nat.lt_of_lt_of_le h1.2 h'.chg.size⟩
  sep := by
    refine List.pairwise_append.2 ⟨h'.sep, (List.pairwise_append.1 h.sep).2.1, fun r hr s hs b hb hb' => ?_⟩
    rcases (h'.rng r hr b hb).1 with ⟨q, hq, hb2⟩ | h1
    · exact (List.pairwise_append.1 h.sep).2.2 q hq s hs b hb2 hb'
    · have := (h.rng s (by simp [hs]) b hb').2; omega

theorem Held.oldM {M : Nat → Prop} {w0 : World} {rs : List Res} {w : World} {α : Type} {E : Enc α} {A : Option Addr} {c : Nat} {xs : List α} (h : Held M w0 rs w) (hs : Sl E w0 (Out M w0) A c xs) : Sl E w (Old w) A c xs :=
  (hs.keep (fun p hp => World.cell?_of_block (w := w0) (h.chg.block p.block hp.1 hp.2))).more fun b hb => Nat.lt_of_lt_of_le hb.1 h.chg.size

theorem Held.oldRM {M : Nat → Prop} {w0 : World} {rs : List Res} {w : World} {α : Type} {E : Enc α} {cs : List Value} {x : α} (h : Held M w0 rs w) (hs : E.R w0 (Out M w0) cs x) : E.R w (Old w) cs x :=
  E.more (E.keep hs (fun p hp => World.cell?_of_block (w := w0) (h.chg.block p.block hp.1 hp.2))) fun b hb => Nat.lt_of_lt_of_le hb.1 h.chg.size

/-- A borrowed slice, as a callee that rewrites xs sees it. -/
theorem Held.lend {w0 : World} {xs rs : List Res} {w : World} {α : Type} {E : Enc α} {A : Option Addr} {c : Nat} {zs : List α} (h : Held Nob w0 (xs ++ rs) w) (hs : Sl E w0 (Old w0) A c zs) : Sl E w (Out (Foot xs) w) A c zs :=
  (hs.keep (fun p hp => h.cell0 hp fun h => h)).more fun b hb => ⟨Nat.lt_of_lt_of_le hb h.size, by
    rintro ⟨r, hr, hb'⟩
    rcases (h.rng r (by simp [hr]) b hb').1 with q | q
    · exact q.elim
    · have : b < w0.heap.size := hb
      omega⟩

theorem Held.lendM {M : Nat → Prop} {w0 : World} {xs rs : List Res} {w : World} {α : Type} {E : Enc α} {A : Option Addr} {c : Nat} {zs : List α} (h : Held M w0 (xs ++ rs) w) (hs : Sl E w0 (Out M w0) A c zs) : Sl E w (Out (Foot xs) w) A c zs :=
  (hs.keep (fun p hp => h.cell0 hp.1 hp.2)).more fun b hb => ⟨Nat.lt_of_lt_of_le hb.1 h.size, by
    rintro ⟨r, hr, hb'⟩
    rcases (h.rng r (by simp [hr]) b hb').1 with q | q
    · exact hb.2 q
    · have : b < w0.heap.size := hb.1
      omega⟩

/-- A part that is owned, as a callee that rewrites other parts sees it. -/
theorem Held.lendR {M : Nat → Prop} {w0 : World} {xs rs : List Res} {w : World} {α : Type} {E : Enc α} {S : Nat → Prop} {cs : List Value} {x : α} (h : Held M w0 (xs ++ rs) w) {i : Nat} (hi : rs[i]? = some (rO E S cs x)) : E.R w (Out (Foot xs) w) cs x :=
  E.more (E.read (h.ok _ (List.mem_append_right _ (List.mem_of_getElem? hi)))) fun b hb => ⟨(h.rng _ (List.mem_append_right _ (List.mem_of_getElem? hi)) b hb).2, by
    rintro ⟨r, hr, hb'⟩
    exact (List.pairwise_append.1 h.sep).2.2 r hr _ (List.mem_of_getElem? hi) b hb' hb⟩

theorem Held.lendO {w0 : World} {xs rs : List Res} {w : World} {α : Type} {E : Enc α} {cs : List Value} {x : α} (h : Held Nob w0 (xs ++ rs) w) (hs : E.R w0 (Old w0) cs x) : E.R w (Out (Foot xs) w) cs x :=
  E.more (E.keep hs (fun p hp => h.cell0 hp fun h => h)) fun b hb => ⟨Nat.lt_of_lt_of_le hb h.size, by
    rintro ⟨r, hr, hb'⟩
    rcases (h.rng r (by simp [hr]) b hb').1 with q | q
    · exact q.elim
    · have : b < w0.heap.size := hb
      omega⟩

theorem Held.lendOM {M : Nat → Prop} {w0 : World} {xs rs : List Res} {w : World} {α : Type} {E : Enc α} {cs : List Value} {x : α} (h : Held M w0 (xs ++ rs) w) (hs : E.R w0 (Out M w0) cs x) : E.R w (Out (Foot xs) w) cs x :=
  E.more (E.keep hs (fun p hp => h.cell0 hp.1 hp.2)) fun b hb => ⟨Nat.lt_of_lt_of_le hb.1 h.size, by
    rintro ⟨r, hr, hb'⟩
    rcases (h.rng r (by simp [hr]) b hb').1 with q | q
    · exact hb.2 q
    · have : b < w0.heap.size := hb.1
      omega⟩

theorem Held.nfB {M : Nat → Prop} {w0 : World} {xs rs : List Res} {w : World} (h : Held M w0 (xs ++ rs) w) {i g : Nat} {t : TypeId} {cs : List Value} (hi : rs[i]? = some (rBlk g t cs)) : ¬ Foot xs g := by
  rintro ⟨r, hr, hb'⟩
  exact (List.pairwise_append.1 h.sep).2.2 r hr _ (List.mem_of_getElem? hi) g hb' rfl

theorem block_of_cell {w : World} {b o : Nat} {v : Value} (h : w.cell? ⟨b, o, none⟩ = some v) : b < w.heap.size := by
  rcases Nat.lt_or_ge b w.heap.size with h1 | h1
  · exact h1
  · exfalso
    unfold World.cell? at h
    simp [Array.getElem?_eq_none h1] at h

theorem Held.nfO {w0 : World} {xs rs : List Res} {w : World} (h : Held Nob w0 (xs ++ rs) w) {b o : Nat} {v : Value} (hc : w0.cell? ⟨b, o, none⟩ = some v) : ¬ Foot xs b := by
  rintro ⟨r, hr, hb'⟩
  rcases (h.rng r (by simp [hr]) b hb').1 with q | q
  · exact q.elim
  · have := block_of_cell hc
    omega

theorem Held.nfOM {M : Nat → Prop} {w0 : World} {xs rs : List Res} {w : World} (h : Held M w0 (xs ++ rs) w) {b o : Nat} {v : Value} (hM : ¬ M b) (hc : w0.cell? ⟨b, o, none⟩ = some v) : ¬ Foot xs b := by
  rintro ⟨r, hr, hb'⟩
  rcases (h.rng r (by simp [hr]) b hb').1 with q | q
  · exact hM q
  · have := block_of_cell hc
    omega

theorem c_oldM {M : Nat → Prop} {w0 : World} {rs : List Res} {b o : Nat} {v : Value} (hM : ¬ M b) (hc : w0.cell? ⟨b, o, none⟩ = some v) : ∀ w, Held M w0 rs w → w.cell? ⟨b, o, none⟩ = some v := fun w h => by
  rw [h.cell0 (lt_of_cell hc) hM]; exact hc

theorem c_oldNM {M : Nat → Prop} {w0 : World} {rs : List Res} {b o : Nat} {cs : List Value} (hM : ¬ M b) (hc : ∀ j v, cs[j]? = some v → w0.cell? ⟨b, o + j, none⟩ = some v) : ∀ w, Held M w0 rs w → ∀ j v, cs[j]? = some v → w.cell? ⟨b, o + j, none⟩ = some v := fun w h j v hv => c_oldM hM (hc j v hv) w h

/-- The flat part in front given up. -/
theorem Held.unF {M : Nat → Prop} {w0 : World} {rs : List Res} {w : World} {α β : Type} {E : Enc α} {F : Enc β} {S : Nat → Prop} {v : Value} {cs : List Value} {x : α × β} (h1 : E.size = 1) (h : Held M w0 (rO (ePr E F) S (v :: cs) x :: rs) w) : Held M w0 (rO F S cs x.2 :: rs) w := by
  refine h.turn _ ?_ fun _ hb => hb
  rintro ⟨c1, c2, S1, S2, he, k1, k2, o1, o2⟩
  have hl := E.len (E.read o1)
  rw [h1] at hl
  obtain ⟨u, rfl⟩ := List.length_eq_one_iff.1 hl
  simp at he
  obtain ⟨_, rfl⟩ := he
  exact F.omore o2 k2

theorem Held.unP {M : Nat → Prop} {w0 : World} {rs : List Res} {w : World} {α β : Type} {E : Enc α} {F : Enc β} {S : Nat → Prop} {v : Value} {cs : List Value} {x : α × β} (h1 : E.size = 1) (h : Held M w0 (rO (ePr E F) S (v :: cs) x :: rs) w) : ∃ S1 S2, Held M w0 (rO E S1 [v] x.1 :: rO F S2 cs x.2 :: rs) w := by
  obtain ⟨c1, c2, S1, S2, he, k1, k2, o1, o2⟩ := h.ok _ (List.mem_cons_self)
  have hl := E.len (E.read o1)
  rw [h1] at hl
  obtain ⟨u, rfl⟩ := List.length_eq_one_iff.1 hl
  simp at he
  obtain ⟨rfl, rfl⟩ := he
  have hs := List.pairwise_cons.1 h.sep
  refine ⟨S1, S2, h.chg, ?_, ?_, ?_⟩
  · intro r hr
    simp only [List.mem_cons] at hr
    rcases hr with rfl | rfl | hr
    · exact o1
    · exact o2
    · exact h.ok r (by simp [hr])
  · intro r hr b hb
    simp only [List.mem_cons] at hr
    rcases hr with rfl | rfl | hr
    · exact h.rng _ (List.mem_cons_self) b (k1 b hb).1
    · exact h.rng _ (List.mem_cons_self) b (k2 b hb)
    · exact h.rng r (by simp [hr]) b hb
  · refine List.pairwise_cons.2 ⟨fun r hr b hb hb' => ?_, List.pairwise_cons.2 ⟨fun r hr b hb hb' => hs.1 r hr b (k2 b hb) hb', hs.2⟩⟩
    rcases List.mem_cons.1 hr with rfl | hr
    · exact (k1 b hb).2 hb'
    · exact hs.1 r hr b (k1 b hb).1 hb'

/-- An owned slice with one element laid open: its cells es; what the element owns (T) is held apart. -/
def Foc {α : Type} (E : Enc α) (w : World) (S : Nat → Prop) (b off c : Nat) (xs : List α) (k : Nat) (es : List Value) : Prop :=
  k < xs.length ∧ xs.length ≤ c ∧ c ≤ maxLen ∧ S b ∧ es.length = E.size ∧ ∃ (t : TypeId) (cur : Array Value) (T : Nat → Nat → Prop), Blk w b t cur ∧ (∀ i m, T i m → S m ∧ m ≠ b) ∧ (∀ i j m, T i m → T j m → i = j) ∧
    (∀ j v, es[j]? = some v → cur[off + k * E.size + j]? = some v) ∧ ∀ (i : Nat) (x : α), i ≠ k → xs[i]? = some x → ∃ us, E.O w (T i) us x ∧ ∀ j v, us[j]? = some v → cur[off + i * E.size + j]? = some v

theorem Foc.keep {α : Type} {E : Enc α} {w w' : World} {S : Nat → Prop} {b off c : Nat} {xs : List α} {k : Nat} {es : List Value} (h : Foc E w S b off c xs k es) (hk : ∀ b, S b → w'.heap[b]? = w.heap[b]?) : Foc E w' S b off c xs k es := by
  obtain ⟨h1, h2, h3, h4, h5, t, cur, T, hB, hT, hd, hc, hr⟩ := h
  refine ⟨h1, h2, h3, h4, h5, t, cur, T, (hk b h4).trans hB, hT, hd, hc, fun i x hi hx => ?_⟩
  obtain ⟨us, q1, q2⟩ := hr i x hi hx
  exact ⟨us, E.okeep q1 fun m hm => hk m (hT i m hm).1, q2⟩

def rFoc {α : Type} (E : Enc α) (S : Nat → Prop) (b off c : Nat) (xs : List α) (k : Nat) (es : List Value) : Res := ⟨S, fun w => Foc E w S b off c xs k es, fun _ _ h hf => hf.keep h⟩

theorem Held.open {M : Nat → Prop} {w0 : World} {rs : List Res} {w : World} {α : Type} {E : Enc α} {S : Nat → Prop} {A : Option Addr} {c : Nat} {xs : List α} (h : Held M w0 (rSo E S A c xs :: rs) w) {k : Nat} (hk : k < xs.length) :
    ∃ b off es T, A = some ⟨b, off, none⟩ ∧ E.R w (Old w) es xs[k] ∧ (∀ m, T m → S m ∧ m ≠ b) ∧ Held M w0 (rFoc E (fun m => S m ∧ ¬ T m) b off c xs k es :: rO E T es xs[k] :: rs) w := by
  have hso := so_of_o (h.ok _ (List.mem_cons_self))
  have hrng := h.rng _ (List.mem_cons_self)
  obtain ⟨b, off, t, cur, T, hA, hb, hB, hT, hd, hc⟩ := hso.2.2 (by intro e; subst e; simp at hk)
  obtain ⟨es, h1, h2⟩ := hc k xs[k] (List.getElem?_eq_getElem hk)
  have hs := List.pairwise_cons.1 h.sep
  refine ⟨b, off, es, T k, hA, E.more (E.read h1) (fun m hm => (hrng m (hT k m hm).1).2), fun m hm => hT k m hm, h.chg, ?_, ?_, ?_⟩
  · intro r hr
    simp only [List.mem_cons] at hr
    rcases hr with rfl | rfl | hr
    · refine ⟨hk, hso.1, hso.2.1, ⟨hb, fun hm => (hT k b hm).2 rfl⟩, E.len (E.read h1), t, cur, fun i m => i ≠ k ∧ T i m, hB, fun i m hm => ⟨⟨(hT i m hm.2).1, fun hm' => hm.1 (hd i k m hm.2 hm')⟩, (hT i m hm.2).2⟩, fun i j m h3 h4 => hd i j m h3.2 h4.2, h2, fun i x hi hx => ?_⟩
      obtain ⟨us, q1, q2⟩ := hc i x hx
      exact ⟨us, E.omore q1 fun m hm => ⟨hi, hm⟩, q2⟩
    · exact h1
    · exact h.ok r (by simp [hr])
  · intro r hr m hm
    simp only [List.mem_cons] at hr
    rcases hr with rfl | rfl | hr
    · exact hrng m hm.1
    · exact hrng m (hT k m hm).1
    · exact h.rng r (by simp [hr]) m hm
  · refine List.pairwise_cons.2 ⟨fun r hr m hm hm' => ?_, List.pairwise_cons.2 ⟨fun r hr m hm hm' => hs.1 r hr m (hT k m hm).1 hm', hs.2⟩⟩
    rcases List.mem_cons.1 hr with rfl | hr
    · exact hm.2 hm'
    · exact hs.1 r hr m hm.1 hm'

theorem Held.shut {M : Nat → Prop} {w0 : World} {rs : List Res} {w : World} {α : Type} {E : Enc α} {S T : Nat → Prop} {b off c k : Nat} {xs : List α} {es : List Value} {y : α} (h : Held M w0 (rFoc E S b off c xs k es :: rO E T es y :: rs) w) : Held M w0 (rSo E (fun m => S m ∨ T m) (some ⟨b, off, none⟩) c (xs.set k y) :: rs) w := by
  refine h.join _ (fun hf ho hd => ?_) fun _ hb => hb
  obtain ⟨h1, h2, h3, h4, h5, t, cur, T', hB, hT, hd', hc, hr⟩ := hf
  refine oSl ⟨by rw [List.length_set]; exact h2, h3, fun _ => ⟨b, off, t, cur, fun i m => (i = k ∧ T m) ∨ (i ≠ k ∧ T' i m), rfl, .inl h4, hB, ?_, ?_, fun i x hx => ?_⟩⟩
  · rintro i m (⟨_, hm⟩ | ⟨_, hm⟩)
    · exact ⟨.inr hm, fun e => hd b h4 (e ▸ hm)⟩
    · exact ⟨.inl (hT i m hm).1, (hT i m hm).2⟩
  · rintro i j m (⟨hi, hm⟩ | ⟨hi, hm⟩) (⟨hj, hm'⟩ | ⟨hj, hm'⟩)
    · rw [hi, hj]
    · exact absurd hm (hd m (hT j m hm').1)
    · exact absurd hm' (hd m (hT i m hm).1)
    · exact hd' i j m hm hm'
  · by_cases e : i = k
    · subst e
      rw [List.getElem?_set_self h1] at hx
      simp at hx; subst hx
      exact ⟨es, E.omore ho fun m hm => .inl ⟨rfl, hm⟩, hc⟩
    · rw [List.getElem?_set_ne (fun h => e h.symm)] at hx
      obtain ⟨us, q1, q2⟩ := hr i x e hx
      exact ⟨us, E.omore q1 fun m hm => .inr ⟨e, hm⟩, q2⟩

theorem c_ownV {M : Nat → Prop} {w0 : World} {rs : List Res} {S : Nat → Prop} {b off c k : Nat} {xs : List Int} {y : Int} (i : Nat) (hi : rs[i]? = some (rSo eInt S (some ⟨b, off, none⟩) c xs)) (hk : k < xs.length) (hy : xs[k] = y) : ∀ w, Held M w0 rs w → w.cell? ⟨b, off + k * 1, none⟩ = some (.int .i64 y) := fun w h => by
  rw [← hy]; exact c_ownI i hi hk w h

theorem Held.relen {M : Nat → Prop} {w0 : World} {rs : List Res} {w : World} {α : Type} {E : Enc α} {S : Nat → Prop} {A : Option Addr} {c n : Nat} {xs : List α} (h : Held M w0 (rSo E S A c xs :: rs) w) (hn : xs.length = n) : Held M w0 (rO (eSl E) S [.slice A n c] xs :: rs) w := hn ▸ h

theorem Held.lt {M : Nat → Prop} {w0 : World} {rs : List Res} {w : World} (h : Held M w0 rs w) {i : Nat} {r : Res} (hi : rs[i]? = some r) : ∀ b, r.S b → b < w.heap.size := fun b hb => (h.rng r (List.mem_of_getElem? hi) b hb).2

/-- What a callee made, beside what is held. -/
theorem Held.app {M : Nat → Prop} {w0 : World} {rs qs : List Res} {w w' : World} (h : Held M w0 rs w) (h' : Held Nob w qs w') : Held M w0 (qs ++ rs) w' where
  chg := (h.on h'.below).chg
  ok := by
    intro r hr
    rcases List.mem_append.1 hr with hr | hr
    · exact h'.ok r hr
    · exact (h.on h'.below).ok r hr
  rng := by
    intro r hr b hb
    rcases List.mem_append.1 hr with hr | hr
    · have h1 := h'.rng r hr b hb
      exact ⟨.inr (Nat.le_trans h.size (h1.1.resolve_left fun q => q.elim)), h1.2⟩
    · exact (h.on h'.below).rng r hr b hb
  sep := by
    refine List.pairwise_append.2 ⟨h'.sep, h.sep, fun r hr s hs b hb hb' => ?_⟩
    have h1 := (h'.rng r hr b hb).1.resolve_left fun q => q.elim
    have h2 := (h.rng s hs b hb').2
    omega

/-- Held only if p holds. -/
def rIf (p : Prop) (r : Res) : Res := ⟨r.S, fun w => p → r.φ w, fun w w' h hp hq => r.loc w w' h (hp hq)⟩

theorem Held.toIf {M : Nat → Prop} {w0 : World} {rs : List Res} {r : Res} {w : World} (h : Held M w0 (r :: rs) w) (p : Prop) : Held M w0 (rIf p r :: rs) w :=
  h.turn (rIf p r) (fun hr _ => hr) fun _ h => h

theorem Held.ofIf {M : Nat → Prop} {w0 : World} {rs : List Res} {r : Res} {w : World} {p : Prop} (h : Held M w0 (rIf p r :: rs) w) (hp : p) : Held M w0 (r :: rs) w :=
  h.turn r (fun hr => hr hp) fun _ h => h

theorem Held.noIf {M : Nat → Prop} {w0 : World} {rs : List Res} {w : World} {p : Prop} (h : Held M w0 rs w) {α : Type} {E : Enc α} {A : Option Addr} {c : Nat} {xs : List α} (r : Res) (hp : ¬ p) (hr : r = rSo E Nob A c xs := by rfl) : Held M w0 (rIf p r :: rs) w := by
  subst hr
  exact h.new (Below.refl _ _) (rIf p (rSo E Nob A c xs)) (fun hq => absurd hq hp) fun _ h => h.elim

theorem tv_2 : TV Try.prog 2 false [.int .i64 0] := by
  obtain ⟨i, h1, h2, h3⟩ := tv_parts (show (Try.prog.info? 2).map (fun i => (i.zero, i.size)) = some (some (.int .i64 0), 1) from by kernel_rfl)
  exact ⟨⟨_, Try.underlying2, rfl⟩, i, _, h1, h2, h3, rfl⟩

theorem tv_31 : TV Try.prog 31 false [.slice none 0 0] := by
  obtain ⟨i, h1, h2, h3⟩ := tv_parts (show (Try.prog.info? 31).map (fun i => (i.zero, i.size)) = some (some (.slice none 0 0), 1) from by kernel_rfl)
  exact ⟨⟨_, Try.underlying31, rfl⟩, i, _, h1, h2, h3, rfl⟩

theorem tv_159 : TV Try.prog 159 true [.int .i64 0, .int .i64 0] := by
  obtain ⟨i, h1, h2, h3⟩ := tv_parts (show (Try.prog.info? 159).map (fun i => (i.zero, i.size)) = some (some (.agg #[.int .i64 0, .int .i64 0]), 2) from by kernel_rfl)
  exact ⟨⟨_, Try.underlying159, rfl⟩, i, _, h1, h2, h3, rfl⟩

theorem ts_31 : TSl Try.prog 31 2 1 8 := by
  obtain ⟨i, h1, h2, h3, h4⟩ := ts_parts (show (Try.prog.info? 2).map (fun i => (i.zero, i.size, i.bytes)) = some (some (.int .i64 0), 1, 8) from by kernel_rfl)
  exact ⟨Try.underlying31, i, _, h1, h2, h3, h4, rfl⟩

theorem ts_66 : TSl Try.prog 66 159 2 16 := by
  obtain ⟨i, h1, h2, h3, h4⟩ := ts_parts (show (Try.prog.info? 159).map (fun i => (i.zero, i.size, i.bytes)) = some (some (.agg #[.int .i64 0, .int .i64 0]), 2, 16) from by kernel_rfl)
  exact ⟨Try.underlying66, i, _, h1, h2, h3, h4, rfl⟩

theorem fa_159_0 : ∀ b o w, (Instr.fieldAt 159 (.pointer (some ⟨b, o, none⟩)) 0).run Try.prog w = .ok (.pointer (some ⟨b, o + 0, none⟩)) w := by
  obtain ⟨i, z, h1, _, h3, _⟩ := tv_2.info
  exact fun b o w => fieldAt_of (f := 0) Try.underlying159 rfl h1 (by rw [h3]; decide) b o w

theorem fa_159_1 : ∀ b o w, (Instr.fieldAt 159 (.pointer (some ⟨b, o, none⟩)) 1).run Try.prog w = .ok (.pointer (some ⟨b, o + 1, none⟩)) w := by
  obtain ⟨i, z, h1, _, h3, _⟩ := tv_2.info
  exact fun b o w => fieldAt_of (f := 1) Try.underlying159 rfl h1 (by rw [h3]; decide) b o w

theorem en_24 : ∀ args w, (callFunc 24 args).run Try.prog w = .ok (.enter 24 args) w := enters_of Try.func24 (by kernel_rfl) rfl

theorem en_25 : ∀ args w, (callFunc 25 args).run Try.prog w = .ok (.enter 25 args) w := enters_of Try.func25 (by kernel_rfl) rfl

theorem en_26 : ∀ args w, (callFunc 26 args).run Try.prog w = .ok (.enter 26 args) w := enters_of Try.func26 (by kernel_rfl) rfl

theorem en_45 : ∀ args w, (callFunc 45 args).run Try.prog w = .ok (.enter 45 args) w := enters_of Try.func45 (by kernel_rfl) rfl

theorem en_46 : ∀ args w, (callFunc 46 args).run Try.prog w = .ok (.enter 46 args) w := enters_of Try.func46 (by kernel_rfl) rfl

theorem en_47 : ∀ args w, (callFunc 47 args).run Try.prog w = .ok (.enter 47 args) w := enters_of Try.func47 (by kernel_rfl) rfl

theorem en_48 : ∀ args w, (callFunc 48 args).run Try.prog w = .ok (.enter 48 args) w := enters_of Try.func48 (by kernel_rfl) rfl

theorem en_49 : ∀ args w, (callFunc 49 args).run Try.prog w = .ok (.enter 49 args) w := enters_of Try.func49 (by kernel_rfl) rfl

theorem en_50 : ∀ args w, (callFunc 50 args).run Try.prog w = .ok (.enter 50 args) w := enters_of Try.func50 (by kernel_rfl) rfl

theorem en_51 : ∀ args w, (callFunc 51 args).run Try.prog w = .ok (.enter 51 args) w := enters_of Try.func51 (by kernel_rfl) rfl

theorem en_108 : ∀ args w, (callFunc 108 args).run Try.prog w = .ok (.enter 108 args) w := enters_of Try.func108 (by kernel_rfl) rfl

theorem en_112 : ∀ args w, (callFunc 112 args).run Try.prog w = .ok (.enter 112 args) w := enters_of Try.func112 (by kernel_rfl) rfl

theorem en_116 : ∀ args w, (callFunc 116 args).run Try.prog w = .ok (.enter 116 args) w := enters_of Try.func116 (by kernel_rfl) rfl

theorem en_117 : ∀ args w, (callFunc 117 args).run Try.prog w = .ok (.enter 117 args) w := enters_of Try.func117 (by kernel_rfl) rfl

theorem en_118 : ∀ args w, (callFunc 118 args).run Try.prog w = .ok (.enter 118 args) w := enters_of Try.func118 (by kernel_rfl) rfl

theorem en_119 : ∀ args w, (callFunc 119 args).run Try.prog w = .ok (.enter 119 args) w := enters_of Try.func119 (by kernel_rfl) rfl

theorem en_120 : ∀ args w, (callFunc 120 args).run Try.prog w = .ok (.enter 120 args) w := enters_of Try.func120 (by kernel_rfl) rfl

theorem en_121 : ∀ args w, (callFunc 121 args).run Try.prog w = .ok (.enter 121 args) w := enters_of Try.func121 (by kernel_rfl) rfl

theorem en_123 : ∀ args w, (callFunc 123 args).run Try.prog w = .ok (.enter 123 args) w := enters_of Try.func123 (by kernel_rfl) rfl

theorem en_124 : ∀ args w, (callFunc 124 args).run Try.prog w = .ok (.enter 124 args) w := enters_of Try.func124 (by kernel_rfl) rfl

theorem en_125 : ∀ args w, (callFunc 125 args).run Try.prog w = .ok (.enter 125 args) w := enters_of Try.func125 (by kernel_rfl) rfl

theorem en_126 : ∀ args w, (callFunc 126 args).run Try.prog w = .ok (.enter 126 args) w := enters_of Try.func126 (by kernel_rfl) rfl

theorem en_127 : ∀ args w, (callFunc 127 args).run Try.prog w = .ok (.enter 127 args) w := enters_of Try.func127 (by kernel_rfl) rfl

theorem en_128 : ∀ args w, (callFunc 128 args).run Try.prog w = .ok (.enter 128 args) w := enters_of Try.func128 (by kernel_rfl) rfl

theorem en_129 : ∀ args w, (callFunc 129 args).run Try.prog w = .ok (.enter 129 args) w := enters_of Try.func129 (by kernel_rfl) rfl

theorem en_150 : ∀ args w, (callFunc 150 args).run Try.prog w = .ok (.enter 150 args) w := enters_of Try.func150 (by kernel_rfl) rfl

theorem en_151 : ∀ args w, (callFunc 151 args).run Try.prog w = .ok (.enter 151 args) w := enters_of Try.func151 (by kernel_rfl) rfl

theorem en_152 : ∀ args w, (callFunc 152 args).run Try.prog w = .ok (.enter 152 args) w := enters_of Try.func152 (by kernel_rfl) rfl

theorem en_185 : ∀ args w, (callFunc 185 args).run Try.prog w = .ok (.enter 185 args) w := enters_of Try.func185 (by kernel_rfl) rfl

theorem en_192 : ∀ args w, (callFunc 192 args).run Try.prog w = .ok (.enter 192 args) w := enters_of Try.func192 (by kernel_rfl) rfl

theorem en_193 : ∀ args w, (callFunc 193 args).run Try.prog w = .ok (.enter 193 args) w := enters_of Try.func193 (by kernel_rfl) rfl

theorem en_194 : ∀ args w, (callFunc 194 args).run Try.prog w = .ok (.enter 194 args) w := enters_of Try.func194 (by kernel_rfl) rfl

theorem en_198 : ∀ args w, (callFunc 198 args).run Try.prog w = .ok (.enter 198 args) w := enters_of Try.func198 (by kernel_rfl) rfl

theorem en_199 : ∀ args w, (callFunc 199 args).run Try.prog w = .ok (.enter 199 args) w := enters_of Try.func199 (by kernel_rfl) rfl

theorem en_200 : ∀ args w, (callFunc 200 args).run Try.prog w = .ok (.enter 200 args) w := enters_of Try.func200 (by kernel_rfl) rfl

theorem en_201 : ∀ args w, (callFunc 201 args).run Try.prog w = .ok (.enter 201 args) w := enters_of Try.func201 (by kernel_rfl) rfl

theorem en_202 : ∀ args w, (callFunc 202 args).run Try.prog w = .ok (.enter 202 args) w := enters_of Try.func202 (by kernel_rfl) rfl

theorem en_218 : ∀ args w, (callFunc 218 args).run Try.prog w = .ok (.enter 218 args) w := enters_of Try.func218 (by kernel_rfl) rfl

theorem en_234 : ∀ args w, (callFunc 234 args).run Try.prog w = .ok (.enter 234 args) w := enters_of Try.func234 (by kernel_rfl) rfl

theorem hmix : Try.prog.follows .mixedOrders = true := by kernel_rfl

theorem ct_L_len (xs : List Int) : ct_L xs = xs.length := by
  have := cntL_const ct_i 1 xs fun _ => rfl
  unfold ct_L; omega

theorem elem_Int64 : Elem Try.prog eInt 31 2 8 := by
  obtain ⟨i0, hi0, hz0, hz1, hz2⟩ := info_parts info_impl_Int64
  exact ⟨Try.underlying31, i0, _, hi0, hz0, hz1, hz2, rfl⟩

set_option maxHeartbeats 400000 in
theorem Clone_Int64 (A : Option Addr) (c : Nat) (xs : List Int) (w : World) (h : Sl eInt w (Old w) A c xs) (hsm : xs.length ≤ 1000000000000) :
    Calls Try.prog 152 #[.slice A xs.length c] w fun e w' => ∃ A' c', e = .returned (.slice A' xs.length c') ∧ So eInt w' (Fr w w') A' c' xs ∧ Below w.heap.size w w' := by
  have q22 : ∀ (w : World) (a : Option Addr) (n c n' c' : Nat), (binOp .eql 31 (.slice a n c) (.slice none n' c')).run Try.prog w = .ok (.bool a.isNone) w := fun w a n c n' c' => Lib.run_eql_slice_nil w _ _ a n c n' c' Try.underlying31
  cases A with
  | none =>
    have hx : xs = [] := Classical.byContradiction fun hn => by
      obtain ⟨b, off, hA, _⟩ := h.2.2 hn
      cases hA
    subst hx
    clear h
    go_enter Try.func152, Try.ntmps152
    go_wp2
    go_ret
    exact ⟨none, 0, rfl, So.nil (Nat.zero_le _), Below.refl _ _⟩
  | some ad =>
    have H := Lib.hid (h.on (below_alloc (Below.refl _ _) (.cells #[] 2))); clear h
    go_enter Try.func152, Try.ntmps152
    go_wp2_with (at_builtin; refine wpList_append_row flat_int elem_Int64 rfl _ _ rfl (base := w.heap.size) rfl (Row.empty (Nat.le_refl _)) rfl H.out (by simp only [List.length_nil]; unfold maxLen; omega) (by simp only [List.length_nil]; omega) (by simp) ?_)
    intro v' w1 hrow hgrow hat
    try rw [List.nil_append] at hrow
    obtain ⟨A', c', rfl, hso⟩ := hrow.so
    have HO := Lib.hid hso
    have HL : Hid (Below w.heap.size w w1) := ((Below.refl _ w).alloc (Nat.le_refl _) _).grown hgrow (by simp) (by intro k hk; simp [Value.ownBlock] at hk; omega)
    clear hrow hgrow hat hso
    go_wp2
    go_ret
    exact ⟨A', c', rfl, HO.out, HL.out⟩

/-- Zeros struck off at the end. -/
def trimZ (xs : List Int) : List Int := (xs.reverse.dropWhile (· == 0)).reverse

theorem trimZ_nil : trimZ [] = [] := rfl

theorem trimZ_zero (xs : List Int) (k : Nat) (h : k < xs.length) (h0 : xs[k] = 0) : trimZ (xs.take (k + 1)) = trimZ (xs.take k) := by
  unfold trimZ
  rw [List.take_succ_eq_append_getElem h, h0, List.reverse_append]; rfl

theorem trimZ_stop (xs : List Int) (k : Nat) (h : k < xs.length) (h0 : xs[k] ≠ 0) : trimZ (xs.take (k + 1)) = xs.take (k + 1) := by
  unfold trimZ
  rw [List.take_succ_eq_append_getElem h, List.reverse_append]
  show (List.dropWhile (· == 0) (xs[k] :: (xs.take k).reverse)).reverse = _
  rw [List.dropWhile_cons_of_neg (by simpa using h0)]; simp

theorem impl_trimmed (A : Option Addr) (c : Nat) (xs : List Int) (w : World) (h : Sl eInt w (Old w) A c xs) :
    Calls Try.prog 151 #[.slice A xs.length c] w fun e w' => e = .returned (.slice A (trimZ xs).length c) ∧ (∃ k, trimZ xs = xs.take k) ∧ w = w' := by
  have hlen := h.len
  have hcap := h.cap
  have hmax := h.2.1
  have H := Lib.hid h; clear h
  go_enter Try.func151, Try.ntmps151
  go_wp2
  go_loop [0] (fun s0 => ∃ k : Nat, k ≤ xs.length ∧ s0 = .slice A k c ∧ Hid (trimZ (xs.take k) = trimZ xs)) (fun s0 => match s0 with | .slice _ n _ => n | _ => 0)
  case atStart => exact ⟨xs.length, Nat.le_refl _, rfl, by show _ = _; rw [List.take_length]⟩
  case round =>
    obtain ⟨k, hk, rfl, HN⟩ := hrel
    rcases k with _ | k
    · have HF : Hid (trimZ xs = []) := by show _ = _; rw [← HN.out]; rfl
      go_wp2
      go_ret
      exact ⟨by rw [HF.out]; rfl, ⟨0, by rw [HF.out]; rfl⟩, rfl⟩
    · have hlt : k < xs.length := by omega
      obtain ⟨b, off, es, rfl, hb, ⟨rfl, _⟩, hc⟩ := H.out.at1 rfl hlt
      have d0 : w.cell? ⟨b, off + k, none⟩ = some (.int .i64 xs[k]) := hc _ rfl
      clear hc
      have HZ := Lib.hid (trimZ_zero xs k hlt)
      have HS := Lib.hid (trimZ_stop xs k hlt)
      generalize xs[k] = y at d0 HZ HS
      cases q : (y == 0)
      · have HF : Hid (trimZ xs = xs.take (k + 1)) := by show _ = _; rw [← HN.out, HS.out (by simpa using q)]
        go_wp2
        go_ret
        exact ⟨by rw [HF.out, List.length_take, show min (k + 1) xs.length = k + 1 from by omega]; rfl, ⟨k + 1, HF.out⟩, rfl⟩
      · go_wp2
        go_round
        case rel => exact ⟨k, by omega, by go_num, by show _ = _; rw [← HN.out, HZ.out (by simpa using q)]⟩
        case measure => simp

theorem spec_l02Trim (A : Option Addr) (c : Nat) (xs : List Int) (w : World) (h : Sl eInt w (Old w) A c xs) :
    Calls Try.prog 218 #[.slice A xs.length c] w fun e w' => e = .returned (.slice A (trimZ xs).length c) ∧ (∃ k, trimZ xs = xs.take k) ∧ w = w' := by
  have hlen := h.len
  have hcap := h.cap
  have hmax := h.2.1
  have H := Lib.hid h; clear h
  go_enter Try.func218, Try.ntmps218
  go_wp2
  go_loop [3] (fun s3 => ∃ k : Nat, k ≤ xs.length ∧ s3 = .int .i64 k ∧ Hid (trimZ (xs.take k) = trimZ xs)) (fun s3 => (intOf s3).toNat)
  case atStart => exact ⟨xs.length, Nat.le_refl _, rfl, by show _ = _; rw [List.take_length]⟩
  case round =>
    obtain ⟨k, hk, rfl, HN⟩ := hrel
    have hkc : (k : Int) ≤ (c : Int) := by omega
    rcases k with _ | k
    · have HF : Hid (trimZ xs = []) := by show _ = _; rw [← HN.out]; rfl
      go_wp2
      go_ret
      exact ⟨by rw [HF.out]; rfl, ⟨0, by rw [HF.out]; rfl⟩, rfl⟩
    · have hlt : k < xs.length := by omega
      have hltz : (k : Int) < (xs.length : Int) := by omega
      obtain ⟨b, off, es, rfl, hb, ⟨rfl, _⟩, hc⟩ := H.out.at1 rfl hlt
      have d0 : w.cell? ⟨b, off + k, none⟩ = some (.int .i64 xs[k]) := hc _ rfl
      clear hc
      have HZ := Lib.hid (trimZ_zero xs k hlt)
      have HS := Lib.hid (trimZ_stop xs k hlt)
      generalize xs[k] = y at d0 HZ HS
      cases q : (y == 0)
      · have HF : Hid (trimZ xs = xs.take (k + 1)) := by show _ = _; rw [← HN.out, HS.out (by simpa using q)]
        go_wp2
        go_ret
        exact ⟨by rw [HF.out, List.length_take, show min (k + 1) xs.length = k + 1 from by omega]; rfl, ⟨k + 1, HF.out⟩, rfl⟩
      · go_wp2
        go_round
        case rel => exact ⟨k, by omega, by go_num, by show _ = _; rw [← HN.out, HZ.out (by simpa using q)]⟩
        case measure => simp [intOf]

theorem trimZ_cons (a : Int) (ys : List Int) : trimZ (a :: ys) = if a = 0 ∧ trimZ ys = [] then [] else a :: trimZ ys := by
  unfold trimZ
  rw [List.reverse_cons, List.dropWhile_append]
  by_cases h : (ys.reverse.dropWhile (· == 0)).isEmpty
  · rw [if_pos h]
    rw [List.isEmpty_iff] at h
    by_cases ha : a = 0
    · rw [if_pos ⟨ha, by rw [h]; rfl⟩, ha]; rfl
    · rw [if_neg (fun hc => ha hc.1), List.dropWhile_cons_of_neg (by simpa using ha), h]; rfl
  · rw [if_neg h, if_neg (fun hc => h (by simpa using hc.2)), List.reverse_append]; rfl

theorem trimZ_len (xs : List Int) : (trimZ xs).length ≤ xs.length := by
  induction xs with
  | nil => simp [trimZ]
  | cons a ys ih => rw [trimZ_cons]; split <;> simp; omega

def fracBad (x : tFraction) : Bool := !withinB x.1 1 999999 || !withinB x.2 1 999999

theorem enters_ValidFractions1 : ∀ args w, (callFunc 197 args).run Try.prog w = .ok (.enter 197 args) w := enters_of Try.func197 (by kernel_rfl) rfl

theorem impl_ValidFractions1 (es : List Value) (x : tFraction) (w : World) (h : eFraction.R w (Old w) es x) :
    Calls Try.prog 197 #[.agg es.toArray] w fun e w' => e = .returned (.bool (fracBad x)) ∧ Below w.heap.size w w' := by
  obtain ⟨rfl, _, _⟩ := shape_Fraction h
  clear h
  unfold fracBad
  obtain ⟨u, d⟩ := x
  cases h1 : withinB u 1 999999
  · go_enter Try.func197, Try.ntmps197
    go_wp2_with (go_at_call 112; refine (impl_within _ _ _ _).mono ?_; rintro e w' ⟨rfl, rfl⟩; rw [h1])
    go_ret
    exact ⟨by first | (simp; done) | simp [h1], (Below.refl _ _).alloc (Nat.le_refl _) _⟩
  · go_enter Try.func197, Try.ntmps197
    go_wp2_with (go_at_call 112; refine (impl_within _ _ _ _).mono ?_; rintro e w' ⟨rfl, rfl⟩; (try rw [h1]))
    go_ret
    exact ⟨by first | (simp; done) | simp [h1], (Below.refl _ _).alloc (Nat.le_refl _) _⟩

def validFrac (xs : List tFraction) : Bool := withinB xs.length 1 100 && !xs.any fracBad

theorem impl_ValidFractions (A : Option Addr) (c : Nat) (xs : List tFraction) (w : World) (h : Sl eFraction w (Old w) A c xs) :
    Calls Try.prog 123 #[.slice A xs.length c] w fun e w' => e = .returned (.bool (validFrac xs)) ∧ Below w.heap.size w w' := by
  unfold validFrac
  have hI := Lib.hid (ContainsFunc_Fraction fracBad 197 #[] A c xs w h enters_ValidFractions1 (fun W x es _ hb hR => impl_ValidFractions1 es x W hR)); clear h
  cases h1 : withinB xs.length 1 100
  · go_enter Try.func123, Try.ntmps123
    go_wp2_with (first | (go_at_call 195; refine (impl_size_Fraction _ _ _ _).mono ?_; rintro e w' ⟨rfl, rfl⟩) | (go_at_call 112; refine (impl_within _ _ _ _).mono ?_; rintro e w' ⟨rfl, rfl⟩; rw [h1]))
    go_ret
    exact ⟨by simp, Below.refl _ _⟩
  · go_enter Try.func123, Try.ntmps123
    go_wp2_with (first | (go_at_call 195; refine (impl_size_Fraction _ _ _ _).mono ?_; rintro e w' ⟨rfl, rfl⟩) | (go_at_call 112; refine (impl_within _ _ _ _).mono ?_; rintro e w' ⟨rfl, rfl⟩; rw [h1]) | (go_at_call 196; refine hI.out.mono ?_; rintro e w' ⟨rfl, hb⟩))
    go_ret
    exact ⟨by simp, hb⟩

set_option maxHeartbeats 400000 in
theorem spec_l08Is (A : Option Addr) (c : Nat) (xs : List tFraction) (w : World) (h : Sl eFraction w (Old w) A c xs) :
    Calls Try.prog 116 #[.slice A xs.length c] w fun e w' => e = .returned (.bool (validFrac xs)) ∧ w = w' := by
  unfold validFrac
  have hlen := h.len
  have H := Lib.hid h; clear h
  by_cases h1 : xs.length < 1
  · have hw : withinB xs.length 1 100 = false := by unfold withinB; simp; omega
    rw [hw]
    have h1' : (xs.length : Int) < 1 := by omega
    go_enter Try.func116, Try.ntmps116
    go_wp2
    go_ret
    exact ⟨rfl, rfl⟩
  by_cases h2 : xs.length > 100
  · have hw : withinB xs.length 1 100 = false := by unfold withinB; simp; omega
    rw [hw]
    have h1' : decide ((xs.length : Int) < 1) = false := by simp; omega
    have h2' : (100 : Int) < (xs.length : Int)  := by omega
    go_enter Try.func116, Try.ntmps116
    go_wp2
    go_ret
    exact ⟨rfl, rfl⟩
  have hw : withinB xs.length 1 100 = true := by unfold withinB; simp; omega
  rw [hw]; clear hw
  have h1' : decide ((xs.length : Int) < 1) = false := by simp; omega
  have h2' : decide ((100 : Int) < (xs.length : Int)) = false := by simp; omega
  go_enter Try.func116, Try.ntmps116
  go_wp2
  go_loop [3] (fun i => ∃ k : Nat, k ≤ xs.length ∧ i = .int .i64 k ∧ Hid ((xs.take k).any fracBad = false)) (fun i => xs.length - (intOf i).toNat)
  case atStart => exact ⟨0, Nat.zero_le _, rfl, rfl⟩
  case round =>
    obtain ⟨k, hk, rfl, HN⟩ := hrel
    by_cases hlt : k < xs.length
    · have hltz : (k : Int) < (xs.length : Int) := by omega
      obtain ⟨b, off, es, rfl, hb, hR, hc⟩ := H.out.at hlt
      obtain ⟨rfl, hi1, hi2⟩ := shape_Fraction hR
      have c0 : w.cell? ⟨b, off + k * 2, none⟩ = some (.int .i64 xs[k].1) := hc 0 _ rfl
      have c1 : w.cell? ⟨b, off + k * 2 + 1, none⟩ = some (.int .i64 xs[k].2) := hc 1 _ rfl
      clear hc hR hi1 hi2
      have HF : Hid (fracBad xs[k] = (!withinB xs[k].1 1 999999 || !withinB xs[k].2 1 999999)) := rfl
      have HT : Hid (fracBad xs[k] = true → xs.any fracBad = true) := fun e => any_hit hlt e
      have HS : Hid (fracBad xs[k] = false → (xs.take (k + 1)).any fracBad = false) := fun e => any_step hlt HN.out e
      generalize xs[k] = y at c0 c1 HF HT HS
      obtain ⟨u, d⟩ := y
      cases q1 : withinB u 1 999999
      · go_wp2_with (go_at_call 108; refine (spec_l00In _ _ _ _).mono ?_; rintro e w' ⟨rfl, rfl⟩; rw [q1])
        go_ret
        exact ⟨by rw [HT.out (by rw [HF.out]; simp [q1])]; rfl, rfl⟩
      · cases q2 : withinB d 1 999999
        · go_wp2_with (go_at_call 108; refine (spec_l00In _ _ _ _).mono ?_; rintro e w' ⟨rfl, rfl⟩; first | rw [q1] | rw [q2])
          go_ret
          exact ⟨by rw [HT.out (by rw [HF.out]; simp [q1, q2])]; rfl, rfl⟩
        · go_wp2_with (go_at_call 108; refine (spec_l00In _ _ _ _).mono ?_; rintro e w' ⟨rfl, rfl⟩; first | rw [q1] | rw [q2])
          go_round
          case rel => exact ⟨k + 1, by omega, by go_num, HS.out (by rw [HF.out]; simp [q1, q2])⟩
          case measure => simp [intOf]; omega
    · have hltz : ¬ (k : Int) < (xs.length : Int) := by omega
      obtain rfl : k = xs.length := by omega
      go_wp2
      go_ret
      refine ⟨?_, rfl⟩
      have := HN.out
      rw [List.take_length] at this
      rw [this]; rfl

def outB (lo hi n : Int) : Bool := !withinB n lo hi

def allW (xs : List Int) (lo hi : Int) : Bool := !xs.any (outB lo hi)

theorem impl_allWithin (A : Option Addr) (c : Nat) (xs : List Int) (lo hi : Int) (w : World) (h : Sl eInt w (Old w) A c xs) :
    Calls Try.prog 150 #[.slice A xs.length c, .int .i64 lo, .int .i64 hi] w fun e w' => e = .returned (.bool (allW xs lo hi)) ∧ w = w' := by
  have hlen := h.len
  have H := Lib.hid h; clear h
  unfold allW
  go_enter Try.func150, Try.ntmps150
  go_wp2
  go_loop [8, 11] (fun _ i => ∃ k : Nat, k ≤ xs.length ∧ i = .int .i64 k ∧ Hid ((xs.take k).any (outB lo hi) = false)) (fun _ i => xs.length - (intOf i).toNat)
  case atStart => exact ⟨0, Nat.zero_le _, rfl, rfl⟩
  case round =>
    obtain ⟨k, hk, rfl, HN⟩ := hrel
    by_cases hlt : k < xs.length
    · have hltz : (k : Int) < (xs.length : Int) := by omega
      obtain ⟨b, off, es, rfl, hb, ⟨rfl, _⟩, hc⟩ := H.out.at1 rfl hlt
      have d0 : w.cell? ⟨b, off + k, none⟩ = some (.int .i64 xs[k]) := hc _ rfl
      clear hc
      have HT : Hid (outB lo hi xs[k] = true → xs.any (outB lo hi) = true) := fun e => any_hit hlt e
      have HS : Hid (outB lo hi xs[k] = false → (xs.take (k + 1)).any (outB lo hi) = false) := fun e => any_step hlt HN.out e
      generalize xs[k] = y at d0 HT HS
      cases q1 : withinB y lo hi
      · go_wp2_with (go_at_call 112; refine (impl_within _ _ _ _).mono ?_; rintro e w' ⟨rfl, rfl⟩; rw [q1])
        go_ret
        exact ⟨by rw [HT.out (by unfold outB; rw [q1]; rfl)]; rfl, rfl⟩
      · go_wp2_with (go_at_call 112; refine (impl_within _ _ _ _).mono ?_; rintro e w' ⟨rfl, rfl⟩; rw [q1])
        go_round
        case rel => exact ⟨k + 1, by omega, by go_num, HS.out (by unfold outB; rw [q1]; rfl)⟩
        case measure => simp [intOf]; omega
    · have hltz : ¬ (k : Int) < (xs.length : Int) := by omega
      obtain rfl : k = xs.length := by omega
      go_wp2
      go_ret
      have hn := HN.out
      rw [List.take_length] at hn
      exact ⟨ret_bool (by rw [hn]; rfl), rfl⟩

set_option maxRecDepth 100000 in
set_option maxHeartbeats 1000000 in
theorem slices_Equal (A A' : Option Addr) (c c' : Nat) (xs ys : List Int) (w : World) (h : Sl eInt w (Old w) A c xs) (h' : Sl eInt w (Old w) A' c' ys) :
    Calls Try.prog 185 #[.slice A xs.length c, .slice A' ys.length c'] w fun e w' => e = .returned (.bool (eq_L xs ys)) ∧ Dr w w' := by
  have hlen := h.len
  have hlen' := h'.len
  unfold eq_L
  by_cases hne : xs.length = ys.length
  · have hne' : ((xs.length : Int) != (ys.length : Int)) = false := by simp [hne]
    have HE := Lib.hid hne; clear hne
    have H := Lib.hid h; clear h
    have H' := Lib.hid h'; clear h'
    go_enter Try.func185, Try.ntmps185
    go_wp2
    clear hne'
    go_loopw [5, 13] (fun _ s5 wr => ∃ k : Nat, k ≤ xs.length ∧ s5 = .int .i64 k ∧ Hid (Dr w wr) ∧ Hid (∀ j (h1 : j < xs.length) (h2 : j < ys.length), j < k → eq_i xs[j] ys[j] = true)) (fun _ s5 _ => xs.length - (intOf s5).toNat)
    case atStart => exact ⟨0, Nat.zero_le _, rfl, Dr.refl _, fun j _ _ h => absurd h (Nat.not_lt_zero _)⟩
    case round =>
      obtain ⟨k, hk, rfl, HL, HN⟩ := hrel
      by_cases hlt : k < xs.length
      · have hltz : (k : Int) < (xs.length : Int) := by omega
        have hlt' : k < ys.length := by have := HE.out; omega
        have hltz' : (k : Int) < (ys.length : Int) := by omega
        obtain ⟨bp, offp, esp, rfl, hbp, ⟨rfl, _⟩, hc⟩ := H.out.at1 rfl hlt
        have dp0 : wr.cell? ⟨bp, offp + k, none⟩ = some (.int .i64 xs[k]) := (HL.out.cell _).trans (hc _ rfl)
        clear hc
        obtain ⟨bq, offq, esq, rfl, hbq, ⟨rfl, _⟩, hc⟩ := H'.out.at1 rfl hlt'
        have dq0 : wr.cell? ⟨bq, offq + k, none⟩ = some (.int .i64 ys[k]) := (HL.out.cell _).trans (hc _ rfl)
        clear hc
        have HQ0 : Hid (eq_i xs[k] ys[k] = false → eqL eq_i xs ys = false) := eqL_get xs ys k hlt hlt'
        have HQ1 : Hid (eq_i xs[k] ys[k] = true → ∀ j (h1 : j < xs.length) (h2 : j < ys.length), j < k + 1 → eq_i xs[j] ys[j] = true) := fun e j h1 h2 hj => by
          by_cases ej : j = k
          · subst ej; exact e
          · exact HN.out j h1 h2 (by omega)
        generalize xs[k] = x at dp0 HQ0 HQ1
        generalize ys[k] = y at dq0 HQ0 HQ1
        cases hq : eq_i x y
        · have hq' : (x != y) = true := by simp [eq_i] at hq; simp [hq]
          go_wp2_with fail
          go_quiet (fail)
          go_wp2
          go_ret
          exact ⟨by rw [HQ0.out hq]; rfl, HL.out.drewN _⟩
        · have hq' : (x != y) = false := by simp [eq_i] at hq; simp [hq]
          go_wp2_with fail
          go_quiet (fail)
          go_wp2
          go_roundw
          case rel => exact ⟨k + 1, by omega, by go_num, HL.out.drewN _, HQ1.out hq⟩
          case measure => simp [intOf]; omega
      · have hltz : ¬ (k : Int) < (xs.length : Int) := by omega
        obtain rfl : k = xs.length := by omega
        go_wp2
        go_ret
        exact ⟨by rw [eqL_all xs ys HE.out fun j h1 h2 => HN.out j h1 h2 h1]; rfl, HL.out⟩
  · have hne' : ((xs.length : Int) != (ys.length : Int)) = true := by simp; omega
    rw [eqL_len xs ys hne]
    clear h h' hne
    go_enter Try.func185, Try.ntmps185
    go_wp2
    go_ret
    exact ⟨rfl, Dr.refl _⟩

theorem left_ok {l : Int} {n : Nat} (h : ¬ left l n < 0) : left l n = l - (n : Int) ∧ (n : Int) ≤ l := by
  unfold left at *; split at h <;> simp_all <;> omega

theorem allW_mem {xs : List Int} {lo hi : Int} (h : allW xs lo hi = true) : ∀ x ∈ xs, lo ≤ x ∧ x ≤ hi := by
  intro x hx
  unfold allW outB at h
  simp at h
  exact withinB_true.1 (h x hx)

def budgetB (n : Int) : Bool := withinB n 1 20000

theorem budgetB_le {n : Int} (h : budgetB n = true) : 1 ≤ n ∧ n ≤ 20000 := withinB_true.1 h

theorem allW_of {xs : List Int} {lo hi : Int} (h : ∀ x ∈ xs, lo ≤ x ∧ x ≤ hi) : allW xs lo hi = true := by
  unfold allW outB; simp; exact fun x hx => withinB_true.2 (h x hx)

set_option maxRecDepth 100000 in
set_option maxHeartbeats 4000000 in
theorem impl_budgetOk (a0 : Int) (w : World)  :
    Calls Try.prog 126 #[.int .i64 a0] w fun e w' => e = .returned (.bool (budgetB a0)) ∧ w = w' := by
  have HH1 := Held.start Nob w
  refine enter (n := 5) Try.func126 rfl rfl rfl fun a_2 HE3 => ?_
  refine wp_seq ?_
  refine rg ?_
  refine pl_x HE3 HH1 (wt0 rfl) (x_assign rfl) rfl rfl fun a_4 HE5 => ?_
  refine wpList_nil ?_
  clear a_2 HE3
  refine nrm ?_
  refine wp_seq ?_
  refine rg ?_
  refine pl_x HE5 HH1 (wt0 rfl) (x_move rfl) rfl rfl fun a_6 HE7 => ?_
  refine pl fun K_8 hK9 => ?_
  refine st_call HE7 (wt0 rfl) rfl rfl rfl en_112 rfl rfl (impl_within a0 1 20000 _ ) fun e w' hr => ?_
  obtain ⟨rfl, rfl⟩ := hr
  refine ⟨_, rfl, fun a_10 HE11 => hK9 _ _ ?_⟩
  refine pl_x HE11 HH1 (wt0 rfl) (x_assign rfl) rfl rfl fun a_12 HE13 => ?_
  refine wpList_nil ?_
  clear a_4 HE5 a_6 HE7 a_10 HE11 hK9 K_8
  refine nrm ?_
  refine wp_ret ?_
  refine ret1 HE13 rfl (rv_tmp rfl) ?_
  have hF : (budgetB a0) = (withinB a0 1 20000) := by
    first | rfl | (simp [budgetB]; done) | (simp [budgetB]; omega) | grind [budgetB]
  exact ⟨by first | (rw [hF] <;> rfl) | rfl | (rw [hF]; simp only [Ending.returned.injEq, Value.slice.injEq, true_and, and_true]; first | omega | (simp; done)), rfl⟩

set_option maxRecDepth 100000 in
set_option maxHeartbeats 4000000 in
theorem spec_l05Budget (a0 : Int) (w : World)  :
    Calls Try.prog 119 #[.int .i64 a0] w fun e w' => e = .returned (.bool (budgetB a0)) ∧ w = w' := by
  have HH1 := Held.start Nob w
  refine enter (n := 5) Try.func119 rfl rfl rfl fun a_2 HE3 => ?_
  refine wp_seq ?_
  refine rg ?_
  refine pl_x HE3 HH1 (wt0 rfl) (x_assign rfl) rfl rfl fun a_4 HE5 => ?_
  refine wpList_nil ?_
  clear a_2 HE3
  refine nrm ?_
  refine wp_seq ?_
  refine rg ?_
  refine pl_x HE5 HH1 (wt0 rfl) (x_move rfl) rfl rfl fun a_6 HE7 => ?_
  refine pl fun K_8 hK9 => ?_
  refine st_call HE7 (wt0 rfl) rfl rfl rfl en_108 rfl rfl (spec_l00In a0 1 20000 _ ) fun e w' hr => ?_
  obtain ⟨rfl, rfl⟩ := hr
  refine ⟨_, rfl, fun a_10 HE11 => hK9 _ _ ?_⟩
  refine pl_x HE11 HH1 (wt0 rfl) (x_assign rfl) rfl rfl fun a_12 HE13 => ?_
  refine wpList_nil ?_
  clear a_4 HE5 a_6 HE7 a_10 HE11 hK9 K_8
  refine nrm ?_
  refine wp_ret ?_
  refine ret1 HE13 rfl (rv_tmp rfl) ?_
  have hF : (budgetB a0) = (withinB a0 1 20000) := by
    first | rfl | (simp [budgetB]; done) | (simp [budgetB]; omega) | grind [budgetB]
  exact ⟨by first | (rw [hF] <;> rfl) | rfl | (rw [hF]; simp only [Ending.returned.injEq, Value.slice.injEq, true_and, and_true]; first | omega | (simp; done)), rfl⟩

/-- The value of limbs. -/
def val : List Int → Int
  | [] => 0
  | x :: xs => x + 1000000 * val xs

def limbs (xs : List Int) : Prop := ∀ x ∈ xs, 0 ≤ x ∧ x ≤ 999999

theorem limbs_set {xs : List Int} {j : Nat} {y : Int} (h : limbs xs) (hy : 0 ≤ y ∧ y ≤ 999999) : limbs (xs.set j y) := fun x hx => by
  rcases List.mem_or_eq_of_mem_set hx with h1 | rfl
  · exact h x h1
  · exact hy

theorem limbs_rep (n : Nat) : limbs (List.replicate n 0) := fun x hx => by
  have := (List.mem_replicate.1 hx).2
  omega

theorem val_rep (n : Nat) : val (List.replicate n 0) = 0 := by
  induction n with
  | zero => rfl
  | succ n ih => rw [List.replicate_succ, val, ih]; rfl

theorem val_set : ∀ {xs : List Int} {j : Nat} {y : Int} (h : j < xs.length), val (xs.set j y) = val xs + (y - xs[j]) * 1000000 ^ j
  | x :: xs, 0, y, _ => by simp [val]; omega
  | x :: xs, j + 1, y, h => by
    rw [List.length_cons] at h
    rw [List.set_cons_succ, val, val, val_set (xs := xs) (j := j) (by omega), List.getElem_cons_succ, Int.pow_succ]
    grind

theorem val_take_succ : ∀ {b : List Int} {k : Nat} (h : k < b.length), val (b.take (k + 1)) = val (b.take k) + b[k] * 1000000 ^ k
  | x :: b, 0, _ => by simp [val]
  | x :: b, k + 1, h => by
    rw [List.length_cons] at h
    rw [List.take_succ_cons, List.take_succ_cons, val, val, val_take_succ (b := b) (k := k) (by omega), List.getElem_cons_succ, Int.pow_succ]
    grind

theorem val_lt : ∀ {xs : List Int}, limbs xs → 0 ≤ val xs ∧ val xs < 1000000 ^ xs.length
  | [], _ => by simp [val]
  | x :: xs, h => by
    have h1 := val_lt (xs := xs) fun y hy => h y (by simp [hy])
    have h2 := h x (by simp)
    rw [val, List.length_cons, Int.pow_succ]
    generalize (1000000 : Int) ^ xs.length = p at *
    omega

/-- One digit of a long multiplication. -/
theorem mul_digit {o : List Int} {j : Nat} {c c' d y T : Int} (hj : j < o.length) (h : val o + c * 1000000 ^ j = T) (hd : d + 1000000 * c' = o[j] + c + y) : val (o.set j d) + c' * 1000000 ^ (j + 1) = T + y * 1000000 ^ j := by
  rw [val_set hj, Int.pow_succ, ← h]
  generalize (1000000 : Int) ^ j = p at *
  have : d = o[j] + c + y - 1000000 * c' := by omega
  subst this
  grind

theorem pow_pos6 (n : Nat) : (0 : Int) < 1000000 ^ n := Int.pow_pos (by decide)

theorem pow_mono6 {m n : Nat} (h : m ≤ n) : (1000000 : Int) ^ m ≤ 1000000 ^ n := by
  obtain ⟨d, rfl⟩ := Nat.le.dest h
  rw [Int.pow_add]
  have h1 := pow_pos6 m
  have h2 := pow_pos6 d
  have : (1000000 : Int) ^ m * 1 ≤ 1000000 ^ m * 1000000 ^ d := Int.mul_le_mul_of_nonneg_left (by omega) (by omega)
  omega

/-- The carry of a long multiplication ends within the room there is. -/
theorem mul_room {a b o : List Int} {i k N : Nat} {c : Int} (ha : limbs a) (hb : limbs b) (ho : limbs o) (hi : i < a.length) (h : val o + c * 1000000 ^ (i + k) = val (a.take i) * val b + a[i]?.getD 0 * val (b.take k) * 1000000 ^ i) (hk : b.length ≤ k) (hc : 0 < c) (hN : a.length + b.length ≤ N) : i + k < N := by
  rw [List.getElem?_eq_getElem hi, Option.getD_some] at h
  refine Classical.byContradiction fun hn => ?_
  have e : val (a.take i) * val b + a[i] * val (b.take k) * 1000000 ^ i = val (a.take (i + 1)) * val b := by
    rw [val_take_succ hi, List.take_of_length_le hk]; grind
  rw [e] at h
  have h1 := val_lt (xs := a.take (i + 1)) fun x hx => ha x (List.mem_of_mem_take hx)
  have h2 := val_lt hb
  have h3 := val_lt ho
  have h4 : (a.take (i + 1)).length = i + 1 := by simp; omega
  rw [h4] at h1
  have h5 : (1000000 : Int) ^ (i + 1 + b.length) ≤ 1000000 ^ (i + k) := pow_mono6 (by omega)
  have h6 : val (a.take (i + 1)) * val b < 1000000 ^ (i + 1) * 1000000 ^ b.length := by
    have q1 := pow_pos6 (i + 1)
    have q2 := pow_pos6 b.length
    have : val (a.take (i + 1)) * val b ≤ val (a.take (i + 1)) * 1000000 ^ b.length := Int.mul_le_mul_of_nonneg_left (by omega) (by omega)
    have : val (a.take (i + 1)) * 1000000 ^ b.length < 1000000 ^ (i + 1) * 1000000 ^ b.length := Int.mul_lt_mul_of_pos_right (by omega) q2
    omega
  rw [← Int.pow_add] at h6
  have h7 : 1 * 1000000 ^ (i + k) ≤ c * (1000000 : Int) ^ (i + k) := Int.mul_le_mul_of_nonneg_right (by omega) (by have := pow_pos6 (i + k); omega)
  omega

/-- The limbs of a number. -/
def digs (n : Nat) : List Int := if h : n = 0 then [] else ((n % 1000000 : Nat) : Int) :: digs (n / 1000000)
  termination_by n
  decreasing_by omega

theorem digs_zero : digs 0 = [] := by rw [digs]; simp

theorem digs_of {x : Int} {m : Nat} (hx : 0 ≤ x ∧ x ≤ 999999) (h : 0 < x ∨ 0 < m) : digs (x.toNat + 1000000 * m) = x :: digs m := by
  rw [digs, dif_neg (by omega)]
  have h1 : (x.toNat + 1000000 * m) % 1000000 = x.toNat := by omega
  have h2 : (x.toNat + 1000000 * m) / 1000000 = m := by omega
  rw [h1, h2]
  congr 1
  omega

theorem digs_nil {n : Nat} : digs n = [] ↔ n = 0 := by
  rw [digs]; split <;> simp [*]

theorem trimZ_digs : ∀ {xs : List Int}, limbs xs → trimZ xs = digs (val xs).toNat
  | [], _ => by simp [trimZ_nil, val, digs_zero]
  | x :: xs, h => by
    have h1 := val_lt (xs := xs) fun y hy => h y (by simp [hy])
    have h2 := h x (by simp)
    have ih := trimZ_digs (xs := xs) fun y hy => h y (by simp [hy])
    rw [trimZ_cons, ih, val]
    have e : (x + 1000000 * val xs).toNat = x.toNat + 1000000 * (val xs).toNat := by omega
    rw [e]
    split
    · rename_i q
      have q2 := digs_nil.1 q.2
      rw [show x.toNat + 1000000 * (val xs).toNat = 0 from by omega, digs_zero]
    · rename_i q
      rw [digs_of h2 (by
        refine Classical.byContradiction fun hn => q ⟨by omega, digs_nil.2 (by omega)⟩)]

/-- The product of limbs. -/
def mulN (a b : List Int) : List Int := digs (val a * val b).toNat

theorem mulN_of {a b o : List Int} (ho : limbs o) (h : val o = val a * val b) : mulN a b = trimZ o := by
  rw [trimZ_digs ho, h]; rfl

theorem digs_limbs (n : Nat) : limbs (digs n) := by
  refine Nat.strongRecOn n fun n ih => ?_
  rw [digs]
  split
  · intro x hx; cases hx
  · intro x hx
    rcases List.mem_cons.1 hx with rfl | hx
    · omega
    · exact ih _ (by omega) x hx

theorem digs_len : ∀ (k n : Nat), n < 1000000 ^ k → (digs n).length ≤ k
  | 0, n, h => by
    have : n = 0 := by simpa using h
    subst this; simp [digs_zero]
  | k + 1, n, h => by
    rw [digs]
    split
    · simp
    · have := digs_len k (n / 1000000) (by rw [Nat.pow_succ] at h; exact Nat.div_lt_of_lt_mul (by omega))
      simp; omega

theorem mulN_len {a b : List Int} (ha : limbs a) (hb : limbs b) : (mulN a b).length ≤ a.length + b.length := by
  have h1 := val_lt ha
  have h2 := val_lt hb
  refine digs_len _ _ ?_
  have q1 := pow_pos6 a.length
  have q2 := pow_pos6 b.length
  have h3 : val a * val b ≤ val a * 1000000 ^ b.length := Int.mul_le_mul_of_nonneg_left (by omega) (by omega)
  have h4 : val a * 1000000 ^ b.length < 1000000 ^ a.length * 1000000 ^ b.length := Int.mul_lt_mul_of_pos_right (by omega) q2
  rw [← Int.pow_add] at h4
  have h5 : ((1000000 ^ (a.length + b.length) : Nat) : Int) = (1000000 : Int) ^ (a.length + b.length) := by simp
  have h6 : 0 ≤ val a * val b := Int.mul_nonneg h1.1 h2.1
  omega

theorem mulN_limbs (a b : List Int) : limbs (mulN a b) := digs_limbs _

/-- Division by a small number, from the top. -/
def divW (by_ : Int) : List Int → List Int × Int
  | [] => ([], 0)
  | x :: xs => (((divW by_ xs).2 * 1000000 + x) / by_ :: (divW by_ xs).1, ((divW by_ xs).2 * 1000000 + x) % by_)

theorem divW_len (d : Int) : ∀ xs, (divW d xs).1.length = xs.length
  | [] => rfl
  | x :: xs => by simp [divW, divW_len d xs]

theorem divW_rest {d : Int} (hd : 0 < d) : ∀ xs, 0 ≤ (divW d xs).2 ∧ (divW d xs).2 < d
  | [] => by simp [divW, hd]
  | x :: xs => by
    rw [divW]
    exact ⟨Int.emod_nonneg _ (by omega), Int.emod_lt_of_pos _ hd⟩

theorem divW_limbs {d : Int} (hd : 0 < d) : ∀ {xs : List Int}, limbs xs → limbs (divW d xs).1
  | [], _ => by intro x hx; cases hx
  | x :: xs, h => by
    have ih := divW_limbs hd (xs := xs) fun y hy => h y (by simp [hy])
    have hr := divW_rest hd xs
    have hx := h x (by simp)
    intro y hy
    rw [divW] at hy
    rcases List.mem_cons.1 hy with rfl | hy
    · generalize (divW d xs).2 = r at *
      constructor
      · exact Int.ediv_nonneg (by omega) (by omega)
      · have : (r * 1000000 + x) / d < 1000000 := Int.ediv_lt_of_lt_mul hd (by
          have h1 : r + 1 ≤ d := by omega
          have : (r + 1) * 1000000 ≤ d * 1000000 := Int.mul_le_mul_of_nonneg_right h1 (by omega)
          omega)
        omega
    · exact ih y hy

theorem divW_drop (d : Int) {xs : List Int} {k : Nat} (h : k < xs.length) : divW d (xs.drop k) = (((divW d (xs.drop (k + 1))).2 * 1000000 + xs[k]) / d :: (divW d (xs.drop (k + 1))).1, ((divW d (xs.drop (k + 1))).2 * 1000000 + xs[k]) % d) := by
  rw [List.drop_eq_getElem_cons h, divW]

def divN (a : List Int) (d : Int) : List Int × Int := (trimZ (divW d a).1, (divW d a).2)

theorem trimZ_mem {xs : List Int} {x : Int} (h : x ∈ trimZ xs) : x ∈ xs := by
  unfold trimZ at h
  have := (List.dropWhile_suffix (· == (0 : Int)) (l := xs.reverse)).subset (List.mem_reverse.1 h)
  simpa using this

theorem divN_len (a : List Int) (d : Int) : (divN a d).1.length ≤ a.length := by
  have := trimZ_len (divW d a).1
  rw [divW_len] at this; exact this

theorem divN_limbs {a : List Int} {d : Int} (hd : 0 < d) (h : limbs a) : limbs (divN a d).1 := fun x hx => divW_limbs hd h x (trimZ_mem hx)

theorem set_div {k : Nat} {x : Int} {l : List Int} : (List.replicate (k + 1) (0 : Int) ++ l).set k x = List.replicate k 0 ++ x :: l := by
  rw [List.replicate_succ', List.append_assoc, List.set_append_right _ _ (by simp)]
  simp

theorem mul_round1 {b u : List Int} {i k : Nat} {c c' d x W : Int} (hj : i + k < u.length) (hk : k < b.length) (h : val u + c * 1000000 ^ (i + k) = W + x * val (b.take k) * 1000000 ^ i) (hd : d + 1000000 * c' = u[i + k] + c + x * b[k]) : val (u.set (i + k) d) + c' * 1000000 ^ (i + (k + 1)) = W + x * val (b.take (k + 1)) * 1000000 ^ i := by
  rw [val_take_succ hk]
  have := mul_digit (y := x * b[k]) hj h hd
  rw [show i + (k + 1) = i + k + 1 from by omega, this, Int.pow_add]
  generalize (1000000 : Int) ^ i = p
  generalize (1000000 : Int) ^ k = q
  grind

theorem mul_round0 {b u : List Int} {i k : Nat} {c c' d x W : Int} (hj : i + k < u.length) (hk : b.length ≤ k) (h : val u + c * 1000000 ^ (i + k) = W + x * val (b.take k) * 1000000 ^ i) (hd : d + 1000000 * c' = u[i + k] + c) : val (u.set (i + k) d) + c' * 1000000 ^ (i + (k + 1)) = W + x * val (b.take (k + 1)) * 1000000 ^ i := by
  have := mul_digit (y := 0) (d := d) (c' := c') hj h (by omega)
  rw [show i + (k + 1) = i + k + 1 from by omega, this, List.take_of_length_le hk, List.take_of_length_le (by omega)]
  simp

theorem mul_end {a b u : List Int} {i k : Nat} {c : Int} (hi : i < a.length) (h : val u + c * 1000000 ^ (i + k) = val (a.take i) * val b + a[i]?.getD 0 * val (b.take k) * 1000000 ^ i) (hc : c = 0) (hk : b.length ≤ k) : val u = val (a.take (i + 1)) * val b := by
  rw [List.getElem?_eq_getElem hi, Option.getD_some, List.take_of_length_le hk, hc] at h
  rw [val_take_succ hi]
  grind

theorem mul_b6 {x y : Int} (hx : 0 ≤ x ∧ x ≤ 999999) (hy : 0 ≤ y ∧ y ≤ 999999) : 0 ≤ x * y ∧ x * y ≤ 999998000001 := by
  have h1 : x * y ≤ x * 999999 := Int.mul_le_mul_of_nonneg_left hy.2 hx.1
  exact ⟨Int.mul_nonneg hx.1 hy.1, by omega⟩

theorem div_bd6 {r x d : Int} (hd : 0 < d) (hr : 0 ≤ r ∧ r < d) (hx : 0 ≤ x ∧ x ≤ 999999) : (0 ≤ (r * 1000000 + x) / d ∧ (r * 1000000 + x) / d ≤ 999999) ∧ (0 ≤ (r * 1000000 + x) % d ∧ (r * 1000000 + x) % d < d) := by
  refine ⟨⟨Int.ediv_nonneg (by omega) (by omega), ?_⟩, Int.emod_nonneg _ (by omega), Int.emod_lt_of_pos _ hd⟩
  have : (r * 1000000 + x) / d < 1000000 := Int.ediv_lt_of_lt_mul hd (by
    have : (r + 1) * 1000000 ≤ d * 1000000 := Int.mul_le_mul_of_nonneg_right (by omega) (by omega)
    omega)
  omega

theorem set_divW {a : List Int} {d : Int} {k : Nat} (hk : 0 < k) (hl : k ≤ a.length) {x : Int} (hx : x = ((divW d (a.drop k)).2 * 1000000 + a[k - 1]) / d) : List.replicate (k - 1) (0 : Int) ++ (divW d (a.drop (k - 1))).1 = (List.replicate k 0 ++ (divW d (a.drop k)).1).set (k - 1) x := by
  obtain ⟨j, rfl⟩ : ∃ j, k = j + 1 := ⟨k - 1, by omega⟩
  simp only [Nat.add_sub_cancel] at hx ⊢
  rw [set_div, divW_drop d (by omega : j < a.length), hx]

theorem rest_divW {a : List Int} {d : Int} {k : Nat} (hk : 0 < k) (hl : k ≤ a.length) : (divW d (a.drop (k - 1))).2 = ((divW d (a.drop k)).2 * 1000000 + a[k - 1]) % d := by
  obtain ⟨j, rfl⟩ : ∃ j, k = j + 1 := ⟨k - 1, by omega⟩
  simp only [Nat.add_sub_cancel]
  rw [divW_drop d (by omega : j < a.length)]

def isNat (n : List Int) : Bool := decide ((n.length : Int) ≤ 40) && allW n 0 999999 && (((n.length : Int) == 0) || (n[n.length - 1]?.getD 0 != 0))

def isPos (n : List Int) : Bool := isNat n && decide (0 < (n.length : Int))

theorem isPos_facts {n : List Int} (h : isPos n = true) : limbs n ∧ n.length ≤ 40 ∧ 0 < n.length := by
  unfold isPos isNat at h
  simp only [Bool.and_eq_true, decide_eq_true_eq] at h
  exact ⟨allW_mem h.1.1.2, by omega, by omega⟩

theorem validFrac_facts {xs : List tFraction} (h : validFrac xs = true) : xs.length ≤ 100 ∧ ∀ x ∈ xs, (1 ≤ x.1 ∧ x.1 ≤ 999999) ∧ 1 ≤ x.2 ∧ x.2 ≤ 999999 := by
  unfold validFrac at h
  simp only [Bool.and_eq_true, Bool.not_eq_true', List.any_eq_false] at h
  have h1 := withinB_true.1 h.1
  refine ⟨by omega, fun x hx => ?_⟩
  have := h.2 x hx
  unfold fracBad at this
  simp only [Bool.or_eq_true, not_or, Bool.not_eq_true', Bool.not_eq_false] at this
  have h2 := withinB_true.1 this.1
  have h3 := withinB_true.1 this.2
  omega

def stepFr : List tFraction → List Int → Int → Option (List Int × Int)
  | [], _, _ => none
  | f :: fs, n, k => if (divN (mulN n [f.1]) f.2).2 = 0 then some ((divN (mulN n [f.1]) f.2).1, k) else stepFr fs n (k + 1)

theorem stepFr_hit {l : List tFraction} {n : List Int} {k : Nat} (hk : k < l.length) (h : (divN (mulN n [l[k].1]) l[k].2).2 = 0) : stepFr (l.drop k) n k = some ((divN (mulN n [l[k].1]) l[k].2).1, (k : Int)) := by
  rw [List.drop_eq_getElem_cons hk, stepFr, if_pos h]

theorem stepFr_miss {l : List tFraction} {n : List Int} {k : Nat} (hk : k < l.length) (h : ¬ (divN (mulN n [l[k].1]) l[k].2).2 = 0) : stepFr (l.drop k) n k = stepFr (l.drop (k + 1)) n ((k + 1 : Nat) : Int) := by
  rw [List.drop_eq_getElem_cons hk, stepFr, if_neg h]; rfl

def stepFI (l : List tFraction) (n : List Int) : List Int × Int := (stepFr l n 0).getD (n, -1)

def stepFS (l : List tFraction) (n : List Int) : List Int × Int := (stepFr l n 0).getD ([], -1)

theorem stepFS_eq (l : List tFraction) (n : List Int) : (stepFS l n).2 = (stepFI l n).2 ∧ (0 ≤ (stepFI l n).2 → (stepFS l n).1 = (stepFI l n).1) := by
  unfold stepFS stepFI
  cases h : stepFr l n 0 with
  | none => simp
  | some r => simp

def okFr (l : List tFraction) : Prop := ∀ x ∈ l, (1 ≤ x.1 ∧ x.1 ≤ 999999) ∧ 1 ≤ x.2 ∧ x.2 ≤ 999999

set_option maxRecDepth 100000 in
set_option maxHeartbeats 4000000 in
theorem impl_IsNatural (A0 : Option Addr) (c0 : Nat) (a0 : (List Int)) (w : World) (h0 : Sl eInt w (Old w) A0 c0 a0) :
    Calls Try.prog 198 #[.slice A0 a0.length c0] w fun e w' => e = .returned (.bool (isNat a0)) ∧ w = w' := by
  have l0 := h0.len
  have HH1 := Held.start Nob w
  refine enter (n := 24) Try.func198 rfl rfl rfl fun a_2 HE3 => ?_
  refine wp_seq ?_
  refine rg ?_
  refine pl_x HE3 HH1 (wt0 rfl) (x_assign rfl) rfl rfl fun a_4 HE5 => ?_
  refine wpList_nil ?_
  clear a_2 HE3
  refine nrm ?_
  refine wp_seq ?_
  refine rg ?_
  refine pl_x HE5 HH1 (wt0 rfl) (x_move rfl) rfl rfl fun a_6 HE7 => ?_
  refine pl_x HE7 HH1 (wt0 rfl) (x_len Try.underlying31 rfl) rfl rfl fun a_8 HE9 => ?_
  refine pl_x HE9 HH1 (wt0 rfl) (x_leq rfl rfl) rfl rfl fun a_10 HE11 => ?_
  refine pl_x HE11 HH1 (wt0 rfl) (x_move rfl) rfl rfl fun a_12 HE13 => ?_
  by_cases hc21 : (a0.length : Int) ≤ 40
  · refine pl_x HE13 HH1 (wtT HE13 rfl rfl rfl (decide_eq_true hc21)) (x_move rfl) rfl rfl fun a_14 HE15 => ?_
    refine pl fun K_16 hK17 => ?_
    refine st_call HE15 (wtT HE15 rfl rfl rfl (decide_eq_true hc21)) rfl rfl rfl en_150 rfl rfl (impl_allWithin _ _ a0 0 999999 _ (HH1.old h0)) fun e w' hr => ?_
    obtain ⟨rfl, rfl⟩ := hr
    refine ⟨_, rfl, fun a_18 HE19 => hK17 _ _ ?_⟩
    refine pl_x HE19 HH1 (wt0 rfl) (x_pickT rfl (decide_eq_true hc21) rfl) rfl rfl fun a_20 HE21 => ?_
    refine pl_x HE21 HH1 (wt0 rfl) (x_move rfl) rfl rfl fun a_22 HE23 => ?_
    rcases Bool.eq_false_or_eq_true ((allW a0 0 999999)) with hc23 | hc23
    · refine pl_x HE23 HH1 (wtT HE23 rfl rfl rfl hc23) (x_move rfl) rfl rfl fun a_24 HE25 => ?_
      refine pl_x HE25 HH1 (wtT HE25 rfl rfl rfl hc23) (x_len Try.underlying31 rfl) rfl rfl fun a_26 HE27 => ?_
      refine pl_x HE27 HH1 (wtT HE27 rfl rfl rfl hc23) (x_eql rfl rfl) rfl rfl fun a_28 HE29 => ?_
      refine pl_x HE29 HH1 (wtT HE29 rfl rfl rfl hc23) (x_move rfl) rfl rfl fun a_30 HE31 => ?_
      by_cases hc24 : (a0.length : Int) = 0
      · refine pl_no HE31 (wtF HE31 rfl rfl rfl (beq_t hc24)) rfl rfl fun a_32 HE33 => ?_
        refine pl_no HE33 (wtF HE33 rfl rfl rfl (beq_t hc24)) rfl rfl fun a_34 HE35 => ?_
        refine pl_no HE35 (wtF HE35 rfl rfl rfl (beq_t hc24)) rfl rfl fun a_36 HE37 => ?_
        refine pl_no HE37 (wtF HE37 rfl rfl rfl (beq_t hc24)) rfl rfl fun a_38 HE39 => ?_
        refine pl_no HE39 (wtF HE39 rfl rfl rfl (beq_t hc24)) rfl rfl fun a_40 HE41 => ?_
        refine pl_no HE41 (wtF HE41 rfl rfl rfl (beq_t hc24)) rfl rfl fun a_42 HE43 => ?_
        refine pl_no HE43 (wtF HE43 rfl rfl rfl (beq_t hc24)) rfl rfl fun a_44 HE45 => ?_
        refine pl_x HE45 HH1 (wtT HE45 rfl rfl rfl hc23) (x_pickT rfl (beq_t hc24) rfl) rfl rfl fun a_46 HE47 => ?_
        refine pl_x HE47 HH1 (wt0 rfl) (x_pickT rfl hc23 rfl) rfl rfl fun a_48 HE49 => ?_
        refine pl_x HE49 HH1 (wt0 rfl) (x_assign rfl) rfl rfl fun a_50 HE51 => ?_
        refine wpList_nil ?_
        clear a_4 HE5 a_6 HE7 a_8 HE9 a_10 HE11 a_12 HE13 a_14 HE15 a_18 HE19 a_20 HE21 a_22 HE23 a_24 HE25 a_26 HE27 a_28 HE29 a_30 HE31 a_32 HE33 a_34 HE35 a_36 HE37 a_38 HE39 a_40 HE41 a_42 HE43 a_44 HE45 a_46 HE47 a_48 HE49 hK17 K_16
        refine nrm ?_
        refine wp_ret ?_
        refine ret1 HE51 rfl (rv_tmp rfl) ?_
        have hF : (isNat a0) = true := by
          first | rfl | (simp [isNat, hc21, hc23, hc24]; done) | (simp [isNat, hc21, hc23, hc24]; omega) | grind [isNat]
        exact ⟨by first | (rw [hF] <;> rfl) | rfl | (rw [hF]; simp only [Ending.returned.injEq, Value.slice.injEq, true_and, and_true]; first | omega | (simp; done)), rfl⟩
      · refine pl_x HE31 HH1 (wtT HE31 rfl rfl rfl (beq_f hc24)) (x_move rfl) rfl rfl fun a_52 HE53 => ?_
        refine pl_x HE53 HH1 (wtT HE53 rfl rfl rfl (beq_f hc24)) (x_move rfl) rfl rfl fun a_54 HE55 => ?_
        refine pl_x HE55 HH1 (wtT HE55 rfl rfl rfl (beq_f hc24)) (x_len Try.underlying31 rfl) rfl rfl fun a_56 HE57 => ?_
        refine pl_x HE57 HH1 (wtT HE57 rfl rfl rfl (beq_f hc24)) (x_sub rfl rfl (by exact ⟨by omega, by omega⟩)) rfl rfl fun a_58 HE59 => ?_
        have ke25 : (a0.length - 1) < a0.length := by omega
        obtain ⟨be25, fe25, ese25, Ae25, Re25, De25⟩ := el_old h0 ke25
        obtain ⟨e25, xe25⟩ : ∃ x_, x_ = a0[(a0.length - 1)] := ⟨_, rfl⟩
        rw [← xe25] at Re25
        have Qe25 := Re25
        obtain ⟨rfl, ie25⟩ := Re25
        have je25 := ie25; unfold I64 at je25
        refine pl_x HE59 HH1 (wtT HE59 rfl rfl rfl (beq_f hc24)) (x_indexAddr ts_31 rfl rfl Ae25 (by omega) ke25) rfl rfl fun a_60 HE61 => ?_
        refine pl_x HE61 HH1 (wtT HE61 rfl rfl rfl (beq_f hc24)) (x_load1 tv_2 rfl (c_old (De25 0 _ rfl))) rfl rfl fun a_62 HE63 => ?_
        refine pl_x HE63 HH1 (wtT HE63 rfl rfl rfl (beq_f hc24)) (x_neq rfl rfl) rfl rfl fun a_64 HE65 => ?_
        refine pl_x HE65 HH1 (wtT HE65 rfl rfl rfl hc23) (x_pickF rfl (beq_f hc24) rfl) rfl rfl fun a_66 HE67 => ?_
        refine pl_x HE67 HH1 (wt0 rfl) (x_pickT rfl hc23 rfl) rfl rfl fun a_68 HE69 => ?_
        refine pl_x HE69 HH1 (wt0 rfl) (x_assign rfl) rfl rfl fun a_70 HE71 => ?_
        refine wpList_nil ?_
        clear a_4 HE5 a_6 HE7 a_8 HE9 a_10 HE11 a_12 HE13 a_14 HE15 a_18 HE19 a_20 HE21 a_22 HE23 a_24 HE25 a_26 HE27 a_28 HE29 a_30 HE31 a_52 HE53 a_54 HE55 a_56 HE57 a_58 HE59 a_60 HE61 a_62 HE63 a_64 HE65 a_66 HE67 a_68 HE69 hK17 K_16
        refine nrm ?_
        refine wp_ret ?_
        refine ret1 HE71 rfl (rv_tmp rfl) ?_
        have hF : (isNat a0) = (e25 != 0) := by
          first | rfl | (simp [isNat, hc21, hc23, hc24, xe25]; done) | (simp [isNat, hc21, hc23, hc24, xe25]; omega) | grind [isNat]
        exact ⟨by first | (rw [hF] <;> rfl) | rfl | (rw [hF]; simp only [Ending.returned.injEq, Value.slice.injEq, true_and, and_true]; first | omega | (simp; done)), rfl⟩
    · refine pl_no HE23 (wtF HE23 rfl rfl rfl hc23) rfl rfl fun a_72 HE73 => ?_
      refine pl_no HE73 (wtF HE73 rfl rfl rfl hc23) rfl rfl fun a_74 HE75 => ?_
      refine pl_no HE75 (wtF HE75 rfl rfl rfl hc23) rfl rfl fun a_76 HE77 => ?_
      refine pl_no HE77 (wtF HE77 rfl rfl rfl hc23) rfl rfl fun a_78 HE79 => ?_
      refine pl_no HE79 (wtU HE79 rfl rfl rfl) rfl rfl fun a_80 HE81 => ?_
      refine pl_no HE81 (wtU HE81 rfl rfl rfl) rfl rfl fun a_82 HE83 => ?_
      refine pl_no HE83 (wtU HE83 rfl rfl rfl) rfl rfl fun a_84 HE85 => ?_
      refine pl_no HE85 (wtU HE85 rfl rfl rfl) rfl rfl fun a_86 HE87 => ?_
      refine pl_no HE87 (wtU HE87 rfl rfl rfl) rfl rfl fun a_88 HE89 => ?_
      refine pl_no HE89 (wtU HE89 rfl rfl rfl) rfl rfl fun a_90 HE91 => ?_
      refine pl_no HE91 (wtU HE91 rfl rfl rfl) rfl rfl fun a_92 HE93 => ?_
      refine pl_no HE93 (wtF HE93 rfl rfl rfl hc23) rfl rfl fun a_94 HE95 => ?_
      refine pl_x HE95 HH1 (wt0 rfl) (x_pickF rfl hc23 rfl) rfl rfl fun a_96 HE97 => ?_
      refine pl_x HE97 HH1 (wt0 rfl) (x_assign rfl) rfl rfl fun a_98 HE99 => ?_
      refine wpList_nil ?_
      clear a_4 HE5 a_6 HE7 a_8 HE9 a_10 HE11 a_12 HE13 a_14 HE15 a_18 HE19 a_20 HE21 a_22 HE23 a_72 HE73 a_74 HE75 a_76 HE77 a_78 HE79 a_80 HE81 a_82 HE83 a_84 HE85 a_86 HE87 a_88 HE89 a_90 HE91 a_92 HE93 a_94 HE95 a_96 HE97 hK17 K_16
      refine nrm ?_
      refine wp_ret ?_
      refine ret1 HE99 rfl (rv_tmp rfl) ?_
      have hF : (isNat a0) = false := by
        first | rfl | (simp [isNat, hc21, hc23]; done) | (simp [isNat, hc21, hc23]; omega) | grind [isNat]
      exact ⟨by first | (rw [hF] <;> rfl) | rfl | (rw [hF]; simp only [Ending.returned.injEq, Value.slice.injEq, true_and, and_true]; first | omega | (simp; done)), rfl⟩
  · refine pl_no HE13 (wtF HE13 rfl rfl rfl (decide_eq_false hc21)) rfl rfl fun a_100 HE101 => ?_
    refine pl_no HE101 (wtF HE101 rfl rfl rfl (decide_eq_false hc21)) rfl rfl fun a_102 HE103 => ?_
    refine pl_x HE103 HH1 (wt0 rfl) (x_pickF rfl (decide_eq_false hc21) rfl) rfl rfl fun a_104 HE105 => ?_
    refine pl_x HE105 HH1 (wt0 rfl) (x_move rfl) rfl rfl fun a_106 HE107 => ?_
    refine pl_no HE107 (wtF HE107 rfl rfl rfl rfl) rfl rfl fun a_108 HE109 => ?_
    refine pl_no HE109 (wtF HE109 rfl rfl rfl rfl) rfl rfl fun a_110 HE111 => ?_
    refine pl_no HE111 (wtF HE111 rfl rfl rfl rfl) rfl rfl fun a_112 HE113 => ?_
    refine pl_no HE113 (wtF HE113 rfl rfl rfl rfl) rfl rfl fun a_114 HE115 => ?_
    refine pl_no HE115 (wtU HE115 rfl rfl rfl) rfl rfl fun a_116 HE117 => ?_
    refine pl_no HE117 (wtU HE117 rfl rfl rfl) rfl rfl fun a_118 HE119 => ?_
    refine pl_no HE119 (wtU HE119 rfl rfl rfl) rfl rfl fun a_120 HE121 => ?_
    refine pl_no HE121 (wtU HE121 rfl rfl rfl) rfl rfl fun a_122 HE123 => ?_
    refine pl_no HE123 (wtU HE123 rfl rfl rfl) rfl rfl fun a_124 HE125 => ?_
    refine pl_no HE125 (wtU HE125 rfl rfl rfl) rfl rfl fun a_126 HE127 => ?_
    refine pl_no HE127 (wtU HE127 rfl rfl rfl) rfl rfl fun a_128 HE129 => ?_
    refine pl_no HE129 (wtF HE129 rfl rfl rfl rfl) rfl rfl fun a_130 HE131 => ?_
    refine pl_x HE131 HH1 (wt0 rfl) (x_pickF rfl rfl rfl) rfl rfl fun a_132 HE133 => ?_
    refine pl_x HE133 HH1 (wt0 rfl) (x_assign rfl) rfl rfl fun a_134 HE135 => ?_
    refine wpList_nil ?_
    clear a_4 HE5 a_6 HE7 a_8 HE9 a_10 HE11 a_12 HE13 a_100 HE101 a_102 HE103 a_104 HE105 a_106 HE107 a_108 HE109 a_110 HE111 a_112 HE113 a_114 HE115 a_116 HE117 a_118 HE119 a_120 HE121 a_122 HE123 a_124 HE125 a_126 HE127 a_128 HE129 a_130 HE131 a_132 HE133
    refine nrm ?_
    refine wp_ret ?_
    refine ret1 HE135 rfl (rv_tmp rfl) ?_
    have hF : (isNat a0) = false := by
      first | rfl | (simp [isNat, hc21]; done) | (simp [isNat, hc21]; omega) | grind [isNat]
    exact ⟨by first | (rw [hF] <;> rfl) | rfl | (rw [hF]; simp only [Ending.returned.injEq, Value.slice.injEq, true_and, and_true]; first | omega | (simp; done)), rfl⟩

set_option maxRecDepth 100000 in
set_option maxHeartbeats 4000000 in
theorem impl_isPositive (A0 : Option Addr) (c0 : Nat) (a0 : (List Int)) (w : World) (h0 : Sl eInt w (Old w) A0 c0 a0) :
    Calls Try.prog 124 #[.slice A0 a0.length c0] w fun e w' => e = .returned (.bool (isPos a0)) ∧ w = w' := by
  have l0 := h0.len
  have HH1 := Held.start Nob w
  refine enter (n := 10) Try.func124 rfl rfl rfl fun a_2 HE3 => ?_
  refine wp_seq ?_
  refine rg ?_
  refine pl_x HE3 HH1 (wt0 rfl) (x_assign rfl) rfl rfl fun a_4 HE5 => ?_
  refine wpList_nil ?_
  clear a_2 HE3
  refine nrm ?_
  refine wp_seq ?_
  refine rg ?_
  refine pl_x HE5 HH1 (wt0 rfl) (x_move rfl) rfl rfl fun a_6 HE7 => ?_
  refine pl fun K_8 hK9 => ?_
  refine st_call HE7 (wt0 rfl) rfl rfl rfl en_198 rfl rfl (impl_IsNatural _ _ a0 _ (HH1.old h0)) fun e w' hr => ?_
  obtain ⟨rfl, rfl⟩ := hr
  refine ⟨_, rfl, fun a_10 HE11 => hK9 _ _ ?_⟩
  refine pl_x HE11 HH1 (wt0 rfl) (x_move rfl) rfl rfl fun a_12 HE13 => ?_
  rcases Bool.eq_false_or_eq_true ((isNat a0)) with hc22 | hc22
  · refine pl_x HE13 HH1 (wtT HE13 rfl rfl rfl hc22) (x_move rfl) rfl rfl fun a_14 HE15 => ?_
    refine pl_x HE15 HH1 (wtT HE15 rfl rfl rfl hc22) (x_len Try.underlying31 rfl) rfl rfl fun a_16 HE17 => ?_
    refine pl_x HE17 HH1 (wtT HE17 rfl rfl rfl hc22) (x_gtr rfl rfl) rfl rfl fun a_18 HE19 => ?_
    refine pl_x HE19 HH1 (wt0 rfl) (x_pickT rfl hc22 rfl) rfl rfl fun a_20 HE21 => ?_
    refine pl_x HE21 HH1 (wt0 rfl) (x_assign rfl) rfl rfl fun a_22 HE23 => ?_
    refine wpList_nil ?_
    clear a_4 HE5 a_6 HE7 a_10 HE11 a_12 HE13 a_14 HE15 a_16 HE17 a_18 HE19 a_20 HE21 hK9 K_8
    refine nrm ?_
    refine wp_ret ?_
    refine ret1 HE23 rfl (rv_tmp rfl) ?_
    have hF : (isPos a0) = decide (0 < (a0.length : Int)) := by
      first | rfl | (simp [isPos, hc22]; done) | (simp [isPos, hc22]; omega) | grind [isPos]
    exact ⟨by first | (rw [hF] <;> rfl) | rfl | (rw [hF]; simp only [Ending.returned.injEq, Value.slice.injEq, true_and, and_true]; first | omega | (simp; done)), rfl⟩
  · refine pl_no HE13 (wtF HE13 rfl rfl rfl hc22) rfl rfl fun a_24 HE25 => ?_
    refine pl_no HE25 (wtF HE25 rfl rfl rfl hc22) rfl rfl fun a_26 HE27 => ?_
    refine pl_no HE27 (wtF HE27 rfl rfl rfl hc22) rfl rfl fun a_28 HE29 => ?_
    refine pl_x HE29 HH1 (wt0 rfl) (x_pickF rfl hc22 rfl) rfl rfl fun a_30 HE31 => ?_
    refine pl_x HE31 HH1 (wt0 rfl) (x_assign rfl) rfl rfl fun a_32 HE33 => ?_
    refine wpList_nil ?_
    clear a_4 HE5 a_6 HE7 a_10 HE11 a_12 HE13 a_24 HE25 a_26 HE27 a_28 HE29 a_30 HE31 hK9 K_8
    refine nrm ?_
    refine wp_ret ?_
    refine ret1 HE33 rfl (rv_tmp rfl) ?_
    have hF : (isPos a0) = false := by
      first | rfl | (simp [isPos, hc22]; done) | (simp [isPos, hc22]; omega) | grind [isPos]
    exact ⟨by first | (rw [hF] <;> rfl) | rfl | (rw [hF]; simp only [Ending.returned.injEq, Value.slice.injEq, true_and, and_true]; first | omega | (simp; done)), rfl⟩

set_option maxRecDepth 100000 in
set_option maxHeartbeats 4000000 in
theorem spec_l02Is (A0 : Option Addr) (c0 : Nat) (a0 : (List Int)) (w : World) (h0 : Sl eInt w (Old w) A0 c0 a0) :
    Calls Try.prog 192 #[.slice A0 a0.length c0] w fun e w' => e = .returned (.bool (isNat a0)) ∧ Below w.heap.size w w' := by
  have l0 := h0.len
  have HH1 := Held.start Nob w
  refine enter (n := 31) Try.func192 rfl rfl rfl fun a_2 HE3 => ?_
  refine wp_seq ?_
  refine rg ?_
  refine pl_x HE3 HH1 (wt0 rfl) (x_assign rfl) rfl rfl fun a_4 HE5 => ?_
  refine wpList_nil ?_
  clear a_2 HE3
  refine nrm ?_
  refine wp_seq ?_
  refine wp_seq ?_
  refine rg ?_
  refine pl_x HE5 HH1 (wt0 rfl) (x_move rfl) rfl rfl fun a_6 HE7 => ?_
  refine pl_x HE7 HH1 (wt0 rfl) (x_len Try.underlying31 rfl) rfl rfl fun a_8 HE9 => ?_
  refine pl_x HE9 HH1 (wt0 rfl) (x_gtr rfl rfl) rfl rfl fun a_10 HE11 => ?_
  refine wpList_nil ?_
  clear a_4 HE5 a_6 HE7 a_8 HE9
  refine nrm ?_
  refine cnd_d HE11 rfl (fun hc21 => ?_) (fun hc21 => ?_)
  · refine wp_seq ?_
    refine rg ?_
    refine pl_x HE11 HH1 (wt0 rfl) (x_assign rfl) rfl rfl fun a_12 HE13 => ?_
    refine wpList_nil ?_
    clear a_10 HE11
    refine nrm ?_
    refine wp_ret ?_
    refine (thn_ret ?_)
    refine ret1 HE13 rfl (rv_tmp rfl) ?_
    have hF : (isNat a0) = false := by
      first | (simp [isNat, hc21]; done) | (unfold isNat; rw [decide_eq_false (by omega)]; rfl) | (unfold isNat allW; rw [any_hit (by omega : k < a0.length) (by rw [← xe0]; simp_all [outB])]; simp) | (have hq := p0_1; rw [List.take_of_length_le (by omega)] at hq; unfold isNat allW; rw [hq]; grind)
    exact ⟨by first | (rw [hF] <;> rfl) | rfl | (rw [hF]; simp only [Ending.returned.injEq, Value.slice.injEq, true_and, and_true]; first | omega | (simp; done)), HH1.below⟩
  · refine wp_skip ?_
    refine nrm ?_
    refine wp_seq ?_
    refine wp_seq ?_
    refine rg ?_
    refine pl_x HE11 HH1 (wt0 rfl) (x_assign rfl) rfl rfl fun a_14 HE15 => ?_
    refine wpList_nil ?_
    clear a_10 HE11
    refine nrm ?_
    refine wp_block ?_
    refine lp (fun m a w' => ∃ (k : Nat), m = a0.length - k ∧ Env 31 [(3, .int .i64 (k : Int)), (0, .slice A0 (a0.length) c0)] a ∧ Held Nob w [] w' ∧ (k ≤ a0.length) ∧ ((a0.take k).any (outB 0 999999) = false)) (a0.length - (0)) ?_ ?_
    · exact ⟨0, rfl, HE15.sub ⟨(lkI rfl (by first | rfl | omega | (simp [hc21]; done))), rfl, trivial⟩, (HH1.sel [] (by decide) rfl), (by first | omega | assumption | (simp; done) | simp_all), (by rfl)⟩
    · rintro m a_16 w' ⟨k, rfl, HE17, HH18, p22_0, p22_1⟩
      refine wp_seq ?_
      refine wp_seq ?_
      refine rg ?_
      refine pl_x HE17 HH18 (wt0 rfl) (x_move rfl) rfl rfl fun a_19 HE20 => ?_
      refine pl_x HE20 HH18 (wt0 rfl) (x_move rfl) rfl rfl fun a_21 HE22 => ?_
      refine pl_x HE22 HH18 (wt0 rfl) (x_len Try.underlying31 rfl) rfl rfl fun a_23 HE24 => ?_
      refine pl_x HE24 HH18 (wt0 rfl) (x_lss rfl rfl) rfl rfl fun a_25 HE26 => ?_
      refine wpList_nil ?_
      clear a_14 HE15 HH1 a_16 HE17 a_19 HE20 a_21 HE22 a_23 HE24
      refine nrm ?_
      refine cnd_d HE26 rfl (fun hc23 => ?_) (fun hc23 => ?_)
      · refine wp_skip ?_
        refine nrm ?_
        refine wp_seq ?_
        refine wp_block ?_
        refine wp_seq ?_
        refine rg ?_
        refine pl_x HE26 HH18 (wt0 rfl) (x_move rfl) rfl rfl fun a_27 HE28 => ?_
        refine pl_x HE28 HH18 (wt0 rfl) (x_move rfl) rfl rfl fun a_29 HE30 => ?_
        have ke24 : k < a0.length := by omega
        obtain ⟨be24, fe24, ese24, Ae24, Re24, De24⟩ := el_old h0 ke24
        obtain ⟨e24, xe24⟩ : ∃ x_, x_ = a0[k] := ⟨_, rfl⟩
        rw [← xe24] at Re24
        have Qe24 := Re24
        obtain ⟨rfl, ie24⟩ := Re24
        have je24 := ie24; unfold I64 at je24
        refine pl_x HE30 HH18 (wt0 rfl) (x_indexAddr ts_31 rfl rfl Ae24 rfl ke24) rfl rfl fun a_31 HE32 => ?_
        refine pl_x HE32 HH18 (wt0 rfl) (x_load1 tv_2 rfl (c_old (De24 0 _ rfl))) rfl rfl fun a_33 HE34 => ?_
        refine pl fun K_35 hK36 => ?_
        refine st_call HE34 (wt0 rfl) rfl rfl rfl en_108 rfl rfl (spec_l00In e24 0 999999 _ ) fun e w' hr => ?_
        obtain ⟨rfl, rfl⟩ := hr
        refine ⟨_, rfl, fun a_37 HE38 => hK36 _ _ ?_⟩
        refine pl_x HE38 HH18 (wt0 rfl) (x_not rfl) rfl rfl fun a_39 HE40 => ?_
        refine wpList_nil ?_
        clear a_25 HE26 a_27 HE28 a_29 HE30 a_31 HE32 a_33 HE34 a_37 HE38 hK36 K_35
        refine nrm ?_
        refine cnd_nb HE40 rfl (fun hc26 => ?_) (fun hc26 => ?_)
        · refine wp_seq ?_
          refine rg ?_
          refine pl_x HE40 HH18 (wt0 rfl) (x_assign rfl) rfl rfl fun a_41 HE42 => ?_
          refine wpList_nil ?_
          clear a_39 HE40
          refine nrm ?_
          refine wp_ret ?_
          refine (blk_ret (thn_ret (thn_ret (blk_ret (thn_ret ?_)))))
          refine ret1 HE42 rfl (rv_tmp rfl) ?_
          have hF : (isNat a0) = false := by
            first | (simp [isNat, hc21, p22_0, p22_1, hc23, xe24, hc26]; done) | (unfold isNat; rw [decide_eq_false (by omega)]; rfl) | (unfold isNat allW; rw [any_hit (by omega : k < a0.length) (by rw [← xe24]; simp_all [outB])]; simp) | (have hq := p22_1; rw [List.take_of_length_le (by omega)] at hq; unfold isNat allW; rw [hq]; grind)
          exact ⟨by first | (rw [hF] <;> rfl) | rfl | (rw [hF]; simp only [Ending.returned.injEq, Value.slice.injEq, true_and, and_true]; first | omega | (simp; done)), HH18.below⟩
        · refine wp_skip ?_
          refine blk_n ?_
          refine nrm ?_
          refine rg ?_
          refine pl_x HE40 HH18 (wt0 rfl) (x_move rfl) rfl rfl fun a_43 HE44 => ?_
          refine pl_x HE44 HH18 (wt0 rfl) (x_add rfl rfl (by exact ⟨by omega, by omega⟩)) rfl rfl fun a_45 HE46 => ?_
          refine pl_x HE46 HH18 (wt0 rfl) (x_assign rfl) rfl rfl fun a_47 HE48 => ?_
          refine wpList_nil ?_
          clear a_39 HE40 a_43 HE44 a_45 HE46
          exact nrm ⟨a0.length - (k + 1), (by omega), k + 1, rfl, HE48.sub ⟨(lkI rfl (by first | rfl | omega | (simp [hc21, p22_0, p22_1, hc23, xe24, hc26]; done))), rfl, trivial⟩, (HH18.sel [] (by decide) rfl), (by first | omega | assumption | (simp; done) | simp_all), (by exact any_step (by omega) p22_1 (by rw [← xe24]; simp_all [outB]))⟩
      · refine wp_exit ?_
        refine (thn_exit (thn_exit (blk_hit ?_)))
        refine nrm ?_
        refine wp_seq ?_
        refine rg ?_
        refine pl_x HE26 HH18 (wt0 rfl) (x_move rfl) rfl rfl fun a_49 HE50 => ?_
        refine pl_x HE50 HH18 (wt0 rfl) (x_len Try.underlying31 rfl) rfl rfl fun a_51 HE52 => ?_
        refine pl_x HE52 HH18 (wt0 rfl) (x_eql rfl rfl) rfl rfl fun a_53 HE54 => ?_
        refine pl_x HE54 HH18 (wt0 rfl) (x_move rfl) rfl rfl fun a_55 HE56 => ?_
        by_cases hc27 : (a0.length : Int) = 0
        · refine pl_no HE56 (wtF HE56 rfl rfl rfl (beq_t hc27)) rfl rfl fun a_57 HE58 => ?_
          refine pl_no HE58 (wtF HE58 rfl rfl rfl (beq_t hc27)) rfl rfl fun a_59 HE60 => ?_
          refine pl_no HE60 (wtF HE60 rfl rfl rfl (beq_t hc27)) rfl rfl fun a_61 HE62 => ?_
          refine pl_no HE62 (wtF HE62 rfl rfl rfl (beq_t hc27)) rfl rfl fun a_63 HE64 => ?_
          refine pl_no HE64 (wtF HE64 rfl rfl rfl (beq_t hc27)) rfl rfl fun a_65 HE66 => ?_
          refine pl_no HE66 (wtF HE66 rfl rfl rfl (beq_t hc27)) rfl rfl fun a_67 HE68 => ?_
          refine pl_no HE68 (wtF HE68 rfl rfl rfl (beq_t hc27)) rfl rfl fun a_69 HE70 => ?_
          refine pl_x HE70 HH18 (wt0 rfl) (x_pickT rfl (beq_t hc27) rfl) rfl rfl fun a_71 HE72 => ?_
          refine pl_x HE72 HH18 (wt0 rfl) (x_assign rfl) rfl rfl fun a_73 HE74 => ?_
          refine wpList_nil ?_
          clear a_25 HE26 a_49 HE50 a_51 HE52 a_53 HE54 a_55 HE56 a_57 HE58 a_59 HE60 a_61 HE62 a_63 HE64 a_65 HE66 a_67 HE68 a_69 HE70 a_71 HE72
          refine nrm ?_
          refine wp_ret ?_
          refine ret1 HE74 rfl (rv_tmp rfl) ?_
          have hF : (isNat a0) = true := by
            first | (simp [isNat, hc21, p22_0, p22_1, hc23, hc27]; done) | (unfold isNat; rw [decide_eq_false (by omega)]; rfl) | (unfold isNat allW; rw [any_hit (by omega : k < a0.length) (by rw [← xe0]; simp_all [outB])]; simp) | (have hq := p22_1; rw [List.take_of_length_le (by omega)] at hq; unfold isNat allW; rw [hq]; grind)
          exact ⟨by first | (rw [hF] <;> rfl) | rfl | (rw [hF]; simp only [Ending.returned.injEq, Value.slice.injEq, true_and, and_true]; first | omega | (simp; done)), HH18.below⟩
        · refine pl_x HE56 HH18 (wtT HE56 rfl rfl rfl (beq_f hc27)) (x_move rfl) rfl rfl fun a_75 HE76 => ?_
          refine pl_x HE76 HH18 (wtT HE76 rfl rfl rfl (beq_f hc27)) (x_move rfl) rfl rfl fun a_77 HE78 => ?_
          refine pl_x HE78 HH18 (wtT HE78 rfl rfl rfl (beq_f hc27)) (x_len Try.underlying31 rfl) rfl rfl fun a_79 HE80 => ?_
          refine pl_x HE80 HH18 (wtT HE80 rfl rfl rfl (beq_f hc27)) (x_sub rfl rfl (by exact ⟨by omega, by omega⟩)) rfl rfl fun a_81 HE82 => ?_
          have ke28 : (a0.length - 1) < a0.length := by omega
          obtain ⟨be28, fe28, ese28, Ae28, Re28, De28⟩ := el_old h0 ke28
          obtain ⟨e28, xe28⟩ : ∃ x_, x_ = a0[(a0.length - 1)] := ⟨_, rfl⟩
          rw [← xe28] at Re28
          have Qe28 := Re28
          obtain ⟨rfl, ie28⟩ := Re28
          have je28 := ie28; unfold I64 at je28
          refine pl_x HE82 HH18 (wtT HE82 rfl rfl rfl (beq_f hc27)) (x_indexAddr ts_31 rfl rfl Ae28 (by omega) ke28) rfl rfl fun a_83 HE84 => ?_
          refine pl_x HE84 HH18 (wtT HE84 rfl rfl rfl (beq_f hc27)) (x_load1 tv_2 rfl (c_old (De28 0 _ rfl))) rfl rfl fun a_85 HE86 => ?_
          refine pl_x HE86 HH18 (wtT HE86 rfl rfl rfl (beq_f hc27)) (x_neq rfl rfl) rfl rfl fun a_87 HE88 => ?_
          refine pl_x HE88 HH18 (wt0 rfl) (x_pickF rfl (beq_f hc27) rfl) rfl rfl fun a_89 HE90 => ?_
          refine pl_x HE90 HH18 (wt0 rfl) (x_assign rfl) rfl rfl fun a_91 HE92 => ?_
          refine wpList_nil ?_
          clear a_25 HE26 a_49 HE50 a_51 HE52 a_53 HE54 a_55 HE56 a_75 HE76 a_77 HE78 a_79 HE80 a_81 HE82 a_83 HE84 a_85 HE86 a_87 HE88 a_89 HE90
          refine nrm ?_
          refine wp_ret ?_
          refine ret1 HE92 rfl (rv_tmp rfl) ?_
          have hF : (isNat a0) = (e28 != 0) := by
            first | (simp [isNat, hc21, p22_0, p22_1, hc23, hc27, xe28]; done) | (unfold isNat; rw [decide_eq_false (by omega)]; rfl) | (unfold isNat allW; rw [any_hit (by omega : k < a0.length) (by rw [← xe28]; simp_all [outB])]; simp) | (have hq := p22_1; rw [List.take_of_length_le (by omega)] at hq; unfold isNat allW; rw [hq]; grind)
          exact ⟨by first | (rw [hF] <;> rfl) | rfl | (rw [hF]; simp only [Ending.returned.injEq, Value.slice.injEq, true_and, and_true]; first | omega | (simp; done)), HH18.below⟩

set_option maxRecDepth 100000 in
set_option maxHeartbeats 4000000 in
theorem spec_l08Number (A0 : Option Addr) (c0 : Nat) (a0 : (List Int)) (w : World) (h0 : Sl eInt w (Old w) A0 c0 a0) :
    Calls Try.prog 117 #[.slice A0 a0.length c0] w fun e w' => e = .returned (.bool (isPos a0)) ∧ Below w.heap.size w w' := by
  have l0 := h0.len
  have HH1 := Held.start Nob w
  refine enter (n := 10) Try.func117 rfl rfl rfl fun a_2 HE3 => ?_
  refine wp_seq ?_
  refine rg ?_
  refine pl_x HE3 HH1 (wt0 rfl) (x_assign rfl) rfl rfl fun a_4 HE5 => ?_
  refine wpList_nil ?_
  clear a_2 HE3
  refine nrm ?_
  refine wp_seq ?_
  refine rg ?_
  refine pl_x HE5 HH1 (wt0 rfl) (x_move rfl) rfl rfl fun a_6 HE7 => ?_
  refine pl fun K_8 hK9 => ?_
  refine st_call HE7 (wt0 rfl) rfl rfl rfl en_192 rfl rfl (spec_l02Is _ _ a0 _ (HH1.old h0)) fun e w' hr => ?_
  obtain ⟨rfl, hbr21⟩ := hr
  have HH10 := HH1.on hbr21
  refine ⟨_, rfl, fun a_11 HE12 => hK9 _ _ ?_⟩
  refine pl_x HE12 HH10 (wt0 rfl) (x_move rfl) rfl rfl fun a_13 HE14 => ?_
  rcases Bool.eq_false_or_eq_true ((isNat a0)) with hc22 | hc22
  · refine pl_x HE14 HH10 (wtT HE14 rfl rfl rfl hc22) (x_move rfl) rfl rfl fun a_15 HE16 => ?_
    refine pl_x HE16 HH10 (wtT HE16 rfl rfl rfl hc22) (x_len Try.underlying31 rfl) rfl rfl fun a_17 HE18 => ?_
    refine pl_x HE18 HH10 (wtT HE18 rfl rfl rfl hc22) (x_gtr rfl rfl) rfl rfl fun a_19 HE20 => ?_
    refine pl_x HE20 HH10 (wt0 rfl) (x_pickT rfl hc22 rfl) rfl rfl fun a_21 HE22 => ?_
    refine pl_x HE22 HH10 (wt0 rfl) (x_assign rfl) rfl rfl fun a_23 HE24 => ?_
    refine wpList_nil ?_
    clear a_4 HE5 HH1 a_6 HE7 a_11 HE12 a_13 HE14 a_15 HE16 a_17 HE18 a_19 HE20 a_21 HE22 hK9 K_8
    refine nrm ?_
    refine wp_ret ?_
    refine ret1 HE24 rfl (rv_tmp rfl) ?_
    have hF : (isPos a0) = decide (0 < (a0.length : Int)) := by
      first | rfl | (simp [isPos, hc22]; done) | (simp [isPos, hc22]; omega) | grind [isPos]
    exact ⟨by first | (rw [hF] <;> rfl) | rfl | (rw [hF]; simp only [Ending.returned.injEq, Value.slice.injEq, true_and, and_true]; first | omega | (simp; done)), HH10.below⟩
  · refine pl_no HE14 (wtF HE14 rfl rfl rfl hc22) rfl rfl fun a_25 HE26 => ?_
    refine pl_no HE26 (wtF HE26 rfl rfl rfl hc22) rfl rfl fun a_27 HE28 => ?_
    refine pl_no HE28 (wtF HE28 rfl rfl rfl hc22) rfl rfl fun a_29 HE30 => ?_
    refine pl_x HE30 HH10 (wt0 rfl) (x_pickF rfl hc22 rfl) rfl rfl fun a_31 HE32 => ?_
    refine pl_x HE32 HH10 (wt0 rfl) (x_assign rfl) rfl rfl fun a_33 HE34 => ?_
    refine wpList_nil ?_
    clear a_4 HE5 HH1 a_6 HE7 a_11 HE12 a_13 HE14 a_25 HE26 a_27 HE28 a_29 HE30 a_31 HE32 hK9 K_8
    refine nrm ?_
    refine wp_ret ?_
    refine ret1 HE34 rfl (rv_tmp rfl) ?_
    have hF : (isPos a0) = false := by
      first | rfl | (simp [isPos, hc22]; done) | (simp [isPos, hc22]; omega) | grind [isPos]
    exact ⟨by first | (rw [hF] <;> rfl) | rfl | (rw [hF]; simp only [Ending.returned.injEq, Value.slice.injEq, true_and, and_true]; first | omega | (simp; done)), HH10.below⟩

set_option maxRecDepth 100000 in
set_option maxHeartbeats 4000000 in
theorem impl_divideSmall (A0 : Option Addr) (c0 : Nat) (a0 : (List Int)) (a1 : Int) (w : World) (h0 : Sl eInt w (Old w) A0 c0 a0) (s0 : limbs a0) (s1 : 1 ≤ a1 ∧ a1 ≤ 999999) (s2 : a0.length ≤ 1000000000) :
    Calls Try.prog 201 #[.slice A0 a0.length c0, .int .i64 a1] w fun e w' => ∃ (A0' : Option Addr) (c0' : Nat), e = .returned (.tuple #[.slice A0' (divN a0 a1).1.length c0', .int .i64 (divN a0 a1).2]) ∧ So eInt w' (Fr w w') A0' c0' (divN a0 a1).1 ∧ Below w.heap.size w w' := by
  have l0 := h0.len
  have HH1 := Held.start Nob w
  refine enter (n := 38) Try.func201 rfl rfl rfl fun a_2 HE3 => ?_
  refine wp_seq ?_
  refine rg ?_
  refine pl_x HE3 HH1 (wt0 rfl) (x_assign rfl) rfl rfl fun a_4 HE5 => ?_
  refine pl_x HE5 HH1 (wt0 rfl) (x_assign rfl) rfl rfl fun a_6 HE7 => ?_
  refine wpList_nil ?_
  clear a_2 HE3 a_4 HE5
  refine nrm ?_
  refine wp_seq ?_
  refine rg ?_
  refine pl_x HE7 HH1 (wt0 rfl) (x_move rfl) rfl rfl fun a_8 HE9 => ?_
  refine pl_x HE9 HH1 (wt0 rfl) (x_len Try.underlying31 rfl) rfl rfl fun a_10 HE11 => ?_
  refine pl fun K_12 hK13 => ?_
  refine st_make (E := eInt) (x := (0 : Int)) (k := a0.length) HE11 HH1 ts_31 tv_2 rfl (fun _ => oI ⟨by omega, by omega⟩) rfl rfl rfl rfl (by omega) (by omega) (wt0 rfl) rfl fun q21 a_14 w' HE15 HH16 => hK13 _ _ ?_
  have hlq21 : (List.replicate a0.length (0 : Int)).length = a0.length := List.length_replicate
  refine pl_x HE15 HH16 (wt0 rfl) (x_assign rfl) rfl rfl fun a_17 HE18 => ?_
  refine pl_x HE18 HH16 (wt0 rfl) (x_assign rfl) rfl rfl fun a_19 HE20 => ?_
  refine wpList_nil ?_
  clear a_6 HE7 a_8 HE9 a_10 HE11 HH1 a_14 HE15 a_17 HE18 hK13 K_12
  refine nrm ?_
  refine wp_seq ?_
  refine wp_seq ?_
  refine rg ?_
  refine pl_x HE20 HH16 (wt0 rfl) (x_move rfl) rfl rfl fun a_21 HE22 => ?_
  refine pl_x HE22 HH16 (wt0 rfl) (x_len Try.underlying31 rfl) rfl rfl fun a_23 HE24 => ?_
  refine pl_x HE24 HH16 (wt0 rfl) (x_sub rfl rfl (by exact ⟨by omega, by omega⟩)) rfl rfl fun a_25 HE26 => ?_
  refine pl_x HE26 HH16 (wt0 rfl) (x_assign rfl) rfl rfl fun a_27 HE28 => ?_
  refine wpList_nil ?_
  clear a_19 HE20 a_21 HE22 a_23 HE24 a_25 HE26
  refine nrm ?_
  refine wp_block ?_
  refine lp (fun m a w' => ∃ (k : Nat), m = 0 + k ∧ Env 38 [(7, .int .i64 (divW a1 (a0.drop k)).2), (8, .int .i64 ((k : Int) - 1)), (0, .slice A0 (a0.length) c0), (1, .int .i64 (a1)), (6, .slice (some ⟨q21, 0, none⟩) ((List.replicate a0.length (0 : Int)).length) a0.length)] a ∧ Held Nob w [rSo eInt (fun b => b = q21) (some ⟨q21, 0, none⟩) a0.length (List.replicate k (0 : Int) ++ (divW a1 (a0.drop k)).1)] w' ∧ (k ≤ a0.length)) (0 + (a0.length)) ?_ ?_
  · have E22 : List.replicate (a0.length) (0 : Int) ++ (divW a1 (a0.drop (a0.length))).1 = (List.replicate a0.length (0 : Int)) := by
      rw [List.drop_length]; simp [divW]
    exact ⟨a0.length, rfl, HE28.sub ⟨(lkI rfl (by rw [List.drop_length]; rfl)), rfl, rfl, rfl, rfl, trivial⟩, ((HH16.sel [0] (by decide) rfl).to (by first | rfl | (rw [E22]; done) | (rw [E22]; rfl) | (simp only [E22]; done) | (simp only [E22]; rfl))), (by first | omega | assumption | (simp; done) | simp_all)⟩
  · rintro m a_29 w' ⟨k, rfl, HE30, HH31, p23_0⟩
    have dr := divW_rest (by omega : 0 < a1) (a0.drop k)
    have dl := divW_len a1 (a0.drop k)
    have dm : (List.replicate k (0 : Int) ++ (divW a1 (a0.drop k)).1).length = a0.length := by rw [List.length_append, dl, List.length_replicate, List.length_drop]; omega
    refine wp_seq ?_
    refine wp_seq ?_
    refine rg ?_
    refine pl_x HE30 HH31 (wt0 rfl) (x_move rfl) rfl rfl fun a_32 HE33 => ?_
    refine pl_x HE33 HH31 (wt0 rfl) (x_geq rfl rfl) rfl rfl fun a_34 HE35 => ?_
    refine wpList_nil ?_
    clear a_27 HE28 HH16 a_29 HE30 a_32 HE33
    refine nrm ?_
    refine cnd_d HE35 rfl (fun hc24 => ?_) (fun hc24 => ?_)
    · refine wp_skip ?_
      refine nrm ?_
      refine wp_seq ?_
      refine wp_block ?_
      refine wp_seq ?_
      refine rg ?_
      refine pl_x HE35 HH31 (wt0 rfl) (x_move rfl) rfl rfl fun a_36 HE37 => ?_
      refine pl_x HE37 HH31 (wt0 rfl) (x_mul rfl rfl (by exact ⟨by omega, by omega⟩)) rfl rfl fun a_38 HE39 => ?_
      refine pl_x HE39 HH31 (wt0 rfl) (x_move rfl) rfl rfl fun a_40 HE41 => ?_
      refine pl_x HE41 HH31 (wt0 rfl) (x_move rfl) rfl rfl fun a_42 HE43 => ?_
      have ke25 : (k - 1) < a0.length := by omega
      obtain ⟨be25, fe25, ese25, Ae25, Re25, De25⟩ := el_old h0 ke25
      obtain ⟨e25, xe25⟩ : ∃ x_, x_ = a0[(k - 1)] := ⟨_, rfl⟩
      rw [← xe25] at Re25
      have Qe25 := Re25
      obtain ⟨rfl, ie25⟩ := Re25
      have je25 := ie25; unfold I64 at je25
      have be25 := s0 e25 (by rw [xe25]; exact List.getElem_mem _)
      have de25 := div_bd6 (x := e25) (by omega : 0 < a1) dr be25
      refine pl_x HE43 HH31 (wt0 rfl) (x_indexAddr ts_31 rfl rfl Ae25 (by omega) ke25) rfl rfl fun a_44 HE45 => ?_
      refine pl_x HE45 HH31 (wt0 rfl) (x_load1 tv_2 rfl (c_old (De25 0 _ rfl))) rfl rfl fun a_46 HE47 => ?_
      refine pl_x HE47 HH31 (wt0 rfl) (x_add rfl rfl (by exact ⟨by omega, by omega⟩)) rfl rfl fun a_48 HE49 => ?_
      refine pl_x HE49 HH31 (wt0 rfl) (x_assign rfl) rfl rfl fun a_50 HE51 => ?_
      refine wpList_nil ?_
      clear a_34 HE35 a_36 HE37 a_38 HE39 a_40 HE41 a_42 HE43 a_44 HE45 a_46 HE47 a_48 HE49
      refine nrm ?_
      refine dr_start (Held Nob w []) 11 #[false, false, false, false, false, false, false, false, false, false, false] hmix rfl rfl HH31 (fun _ h => h.sel [] (by decide) rfl) fun w' HH52 => ?_
      have HS53 := HH52.sel [] (by decide) rfl
      refine dr_take (i := 0) (ls' := #[true, false, false, false, false, false, false, false, false, false, false]) HE51 HS53 rfl (by kernel_rfl) (by kernel_rfl) (by kernel_rfl) (fun _ _ _ h => h) rfl (wt0 rfl) (x_move rfl) rfl rfl fun a_54 HE55 => ?_
      refine dr_take (i := 1) (ls' := #[true, true, false, false, false, false, false, false, false, false, false]) HE55 HS53 rfl (by kernel_rfl) (by kernel_rfl) (by kernel_rfl) (fun _ _ _ h => h) rfl (wt0 rfl) (x_move rfl) rfl rfl fun a_56 HE57 => ?_
      refine dr_take (i := 2) (ls' := #[true, true, true, false, false, false, false, false, false, false, false]) HE57 HS53 rfl (by kernel_rfl) (by kernel_rfl) (by kernel_rfl) (fun _ _ _ h => h) rfl (wt0 rfl) (x_move rfl) rfl rfl fun a_58 HE59 => ?_
      refine dr_take (i := 3) (ls' := #[true, true, true, true, false, false, false, false, false, false, false]) HE59 HS53 rfl (by kernel_rfl) (by kernel_rfl) (by kernel_rfl) (fun _ _ _ h => h) rfl (wt0 rfl) (x_move rfl) rfl rfl fun a_60 HE61 => ?_
      refine dr_take (i := 4) (ls' := #[true, true, true, true, true, false, false, false, false, false, false]) HE61 HS53 rfl (by kernel_rfl) (by kernel_rfl) (by kernel_rfl) (fun _ _ _ h => h) rfl (wt0 rfl) (x_quo rfl rfl (by omega) (by omega) (by omega)) rfl rfl fun a_62 HE63 => ?_
      refine dr_take (i := 5) (ls' := #[true, true, true, true, true, true, false, false, false, false, false]) HE63 HS53 rfl (by kernel_rfl) (by kernel_rfl) (by kernel_rfl) (fun _ _ _ h => h) rfl (wt0 rfl) (x_move rfl) rfl rfl fun a_64 HE65 => ?_
      refine dr_take (i := 6) (ls' := #[true, true, true, true, true, true, true, false, false, false, false]) HE65 HS53 rfl (by kernel_rfl) (by kernel_rfl) (by kernel_rfl) (fun _ _ _ h => h) rfl (wt0 rfl) (x_move rfl) rfl rfl fun a_66 HE67 => ?_
      refine dr_take (i := 7) (ls' := #[true, true, true, true, true, true, true, true, false, false, false]) HE67 HS53 rfl (by kernel_rfl) (by kernel_rfl) (by kernel_rfl) (fun _ _ _ h => h) rfl (wt0 rfl) (x_rem rfl rfl (by omega) (by omega)) rfl rfl fun a_68 HE69 => ?_
      have ke26 : (k - 1) < (List.replicate a0.length (0 : Int)).length := by omega
      refine dr_take (i := 8) (ls' := #[true, true, true, true, true, true, true, true, true, false, false]) HE69 HS53 rfl (by kernel_rfl) (by kernel_rfl) (by kernel_rfl) (fun _ _ _ h => h) rfl (wt0 rfl) (x_indexAddr ts_31 rfl rfl rfl (by omega) ke26) rfl rfl fun a_70 HE71 => ?_
      refine dr_one (i := 9) (ls' := #[true, true, true, true, true, true, true, true, true, true, false]) rfl (by kernel_rfl) rfl fun K_72 hK73 => ?_
      refine st_storeI 0 HE71 HH52 tv_2 rfl rfl rfl (by first | exact ke26 | (simp only [List.length_set]; exact ke26) | omega | (simp only [List.length_set]; omega) | (simp; omega)) (by exact ⟨by omega, by omega⟩) (wt0 rfl) fun w' HH74 => hK73 _ _ (by exact HH74.sel [] (by decide) rfl) ?_
      have HS75 := HH74.sel [] (by decide) rfl
      refine dr_take (i := 10) (ls' := #[true, true, true, true, true, true, true, true, true, true, true]) HE71 HS75 rfl (by kernel_rfl) (by kernel_rfl) (by kernel_rfl) (fun _ _ _ h => h) rfl (wt0 rfl) (x_assign rfl) rfl rfl fun a_76 HE77 => ?_
      refine dr_done (by kernel_rfl) ?_
      clear HH31 a_50 HE51 a_54 HE55 a_56 HE57 a_58 HE59 a_60 HE61 a_62 HE63 a_64 HE65 a_66 HE67 a_68 HE69 HH52 HS53 a_70 HE71 hK73 K_72
      refine blk_n ?_
      refine nrm ?_
      refine rg ?_
      refine pl_x HE77 HH74 (wt0 rfl) (x_move rfl) rfl rfl fun a_78 HE79 => ?_
      refine pl_x HE79 HH74 (wt0 rfl) (x_sub rfl rfl (by exact ⟨by omega, by omega⟩)) rfl rfl fun a_80 HE81 => ?_
      refine pl_x HE81 HH74 (wt0 rfl) (x_assign rfl) rfl rfl fun a_82 HE83 => ?_
      refine wpList_nil ?_
      clear a_76 HE77 a_78 HE79 a_80 HE81
      have E27 : List.replicate ((k - 1)) (0 : Int) ++ (divW a1 (a0.drop ((k - 1)))).1 = ((List.replicate k (0 : Int) ++ (divW a1 (a0.drop k)).1).set (k - 1) (((((divW a1 (a0.drop k)).2) * 1000000) + e25) / a1)) := by
        exact set_divW (by omega) (by omega) (by rw [← xe25])
      exact nrm ⟨0 + ((k - 1)), (by omega), (k - 1), rfl, HE83.sub ⟨(lkI rfl (by first | (rw [rest_divW (by omega) (by omega), ← xe25]; done) | (rw [rest_divW (by omega) (by omega), ← xe25]; rfl))), (lkI rfl (by omega)), rfl, rfl, rfl, trivial⟩, ((HH74.sel [0] (by decide) rfl).to (by first | rfl | (rw [E27]; done) | (rw [E27]; rfl) | (simp only [E27]; done) | (simp only [E27]; rfl))), (by first | omega | assumption | (simp; done) | simp_all)⟩
    · refine wp_exit ?_
      refine (thn_exit (thn_exit (blk_hit ?_)))
      refine nrm ?_
      refine wp_seq ?_
      refine rg ?_
      refine pl_x HE35 HH31 (wt0 rfl) (x_move rfl) rfl rfl fun a_84 HE85 => ?_
      refine pl fun K_86 hK87 => ?_
      have HE88 := HE85.castS (t := 35) (m' := List.length (List.replicate k (0 : Int) ++ (divW a1 (a0.drop k)).1)) rfl (by first | omega | (simp; done) | (simp; omega))
      refine st_call HE88 (wt0 rfl) rfl rfl rfl en_151 rfl rfl (impl_trimmed _ _ (List.replicate k (0 : Int) ++ (divW a1 (a0.drop k)).1) _ (HH31.sl (i := 0) rfl)) fun e w' hr => ?_
      obtain ⟨rfl, ⟨kt28, ht28⟩, rfl⟩ := hr
      have HH89 := HH31.turn (rSo eInt (fun b => b = q21) (some ⟨q21, 0, none⟩) a0.length (trimZ (List.replicate k (0 : Int) ++ (divW a1 (a0.drop k)).1))) (fun h => oSl (by rw [ht28]; exact (so_of_o h).take kt28)) (fun _ h => h)
      refine ⟨_, rfl, fun a_90 HE91 => hK87 _ _ ?_⟩
      refine pl_x HE91 HH89 (wt0 rfl) (x_move rfl) rfl rfl fun a_92 HE93 => ?_
      refine pl_x HE93 HH89 (wt0 rfl) (x_assign rfl) rfl rfl fun a_94 HE95 => ?_
      refine pl_x HE95 HH89 (wt0 rfl) (x_assign rfl) rfl rfl fun a_96 HE97 => ?_
      refine wpList_nil ?_
      clear a_34 HE35 HE85 HH31 a_84 HE88 a_90 HE91 a_92 HE93 a_94 HE95 hK87 K_86
      refine nrm ?_
      refine wp_ret ?_
      refine ret2 HE97 rfl (rv_tmp rfl) (rv_tmp rfl) ?_
      have hF : (divN a0 a1) = ((trimZ (List.replicate k (0 : Int) ++ (divW a1 (a0.drop k)).1)), (divW a1 (a0.drop k)).2) := by
        unfold divN; rw [show k = 0 from by omega]; simp
      exact ⟨(some ⟨q21, 0, none⟩), a0.length, by first | (rw [hF] <;> rfl) | rfl | (rw [hF]; simp only [Ending.returned.injEq, Value.slice.injEq, true_and, and_true]; first | omega | (simp; done)), by rw [hF]; exact (HH89.so (i := 0) rfl), HH89.below⟩

set_option maxRecDepth 100000 in
set_option maxHeartbeats 4000000 in
theorem spec_l02By (A0 : Option Addr) (c0 : Nat) (a0 : (List Int)) (a1 : Int) (w : World) (h0 : Sl eInt w (Old w) A0 c0 a0) (s0 : limbs a0) (s1 : 1 ≤ a1 ∧ a1 ≤ 999999) (s2 : a0.length ≤ 1000000000) :
    Calls Try.prog 193 #[.slice A0 a0.length c0, .int .i64 a1] w fun e w' => ∃ (A0' : Option Addr) (c0' : Nat), e = .returned (.tuple #[.slice A0' (divN a0 a1).1.length c0', .int .i64 (divN a0 a1).2]) ∧ So eInt w' (Fr w w') A0' c0' (divN a0 a1).1 ∧ Below w.heap.size w w' := by
  have l0 := h0.len
  have HH1 := Held.start Nob w
  refine enter (n := 38) Try.func193 rfl rfl rfl fun a_2 HE3 => ?_
  refine wp_seq ?_
  refine rg ?_
  refine pl_x HE3 HH1 (wt0 rfl) (x_assign rfl) rfl rfl fun a_4 HE5 => ?_
  refine pl_x HE5 HH1 (wt0 rfl) (x_assign rfl) rfl rfl fun a_6 HE7 => ?_
  refine wpList_nil ?_
  clear a_2 HE3 a_4 HE5
  refine nrm ?_
  refine wp_seq ?_
  refine rg ?_
  refine pl_x HE7 HH1 (wt0 rfl) (x_move rfl) rfl rfl fun a_8 HE9 => ?_
  refine pl_x HE9 HH1 (wt0 rfl) (x_len Try.underlying31 rfl) rfl rfl fun a_10 HE11 => ?_
  refine pl fun K_12 hK13 => ?_
  refine st_make (E := eInt) (x := (0 : Int)) (k := a0.length) HE11 HH1 ts_31 tv_2 rfl (fun _ => oI ⟨by omega, by omega⟩) rfl rfl rfl rfl (by omega) (by omega) (wt0 rfl) rfl fun q21 a_14 w' HE15 HH16 => hK13 _ _ ?_
  have hlq21 : (List.replicate a0.length (0 : Int)).length = a0.length := List.length_replicate
  refine pl_x HE15 HH16 (wt0 rfl) (x_assign rfl) rfl rfl fun a_17 HE18 => ?_
  refine wpList_nil ?_
  clear a_6 HE7 a_8 HE9 a_10 HE11 HH1 a_14 HE15 hK13 K_12
  refine nrm ?_
  refine wp_seq ?_
  refine rg ?_
  refine pl_x HE18 HH16 (wt0 rfl) (x_assign rfl) rfl rfl fun a_19 HE20 => ?_
  refine wpList_nil ?_
  clear a_17 HE18
  refine nrm ?_
  refine wp_seq ?_
  refine wp_seq ?_
  refine rg ?_
  refine pl_x HE20 HH16 (wt0 rfl) (x_move rfl) rfl rfl fun a_21 HE22 => ?_
  refine pl_x HE22 HH16 (wt0 rfl) (x_len Try.underlying31 rfl) rfl rfl fun a_23 HE24 => ?_
  refine pl_x HE24 HH16 (wt0 rfl) (x_sub rfl rfl (by exact ⟨by omega, by omega⟩)) rfl rfl fun a_25 HE26 => ?_
  refine pl_x HE26 HH16 (wt0 rfl) (x_assign rfl) rfl rfl fun a_27 HE28 => ?_
  refine wpList_nil ?_
  clear a_19 HE20 a_21 HE22 a_23 HE24 a_25 HE26
  refine nrm ?_
  refine wp_block ?_
  refine lp (fun m a w' => ∃ (k : Nat), m = 0 + k ∧ Env 38 [(7, .int .i64 (divW a1 (a0.drop k)).2), (8, .int .i64 ((k : Int) - 1)), (0, .slice A0 (a0.length) c0), (1, .int .i64 (a1)), (6, .slice (some ⟨q21, 0, none⟩) ((List.replicate a0.length (0 : Int)).length) a0.length)] a ∧ Held Nob w [rSo eInt (fun b => b = q21) (some ⟨q21, 0, none⟩) a0.length (List.replicate k (0 : Int) ++ (divW a1 (a0.drop k)).1)] w' ∧ (k ≤ a0.length)) (0 + (a0.length)) ?_ ?_
  · have E22 : List.replicate (a0.length) (0 : Int) ++ (divW a1 (a0.drop (a0.length))).1 = (List.replicate a0.length (0 : Int)) := by
      rw [List.drop_length]; simp [divW]
    exact ⟨a0.length, rfl, HE28.sub ⟨(lkI rfl (by rw [List.drop_length]; rfl)), rfl, rfl, rfl, rfl, trivial⟩, ((HH16.sel [0] (by decide) rfl).to (by first | rfl | (rw [E22]; done) | (rw [E22]; rfl) | (simp only [E22]; done) | (simp only [E22]; rfl))), (by first | omega | assumption | (simp; done) | simp_all)⟩
  · rintro m a_29 w' ⟨k, rfl, HE30, HH31, p23_0⟩
    have dr := divW_rest (by omega : 0 < a1) (a0.drop k)
    have dl := divW_len a1 (a0.drop k)
    have dm : (List.replicate k (0 : Int) ++ (divW a1 (a0.drop k)).1).length = a0.length := by rw [List.length_append, dl, List.length_replicate, List.length_drop]; omega
    refine wp_seq ?_
    refine wp_seq ?_
    refine rg ?_
    refine pl_x HE30 HH31 (wt0 rfl) (x_move rfl) rfl rfl fun a_32 HE33 => ?_
    refine pl_x HE33 HH31 (wt0 rfl) (x_geq rfl rfl) rfl rfl fun a_34 HE35 => ?_
    refine wpList_nil ?_
    clear a_27 HE28 HH16 a_29 HE30 a_32 HE33
    refine nrm ?_
    refine cnd_d HE35 rfl (fun hc24 => ?_) (fun hc24 => ?_)
    · refine wp_skip ?_
      refine nrm ?_
      refine wp_seq ?_
      refine wp_block ?_
      refine wp_seq ?_
      refine rg ?_
      refine pl_x HE35 HH31 (wt0 rfl) (x_move rfl) rfl rfl fun a_36 HE37 => ?_
      refine pl_x HE37 HH31 (wt0 rfl) (x_mul rfl rfl (by exact ⟨by omega, by omega⟩)) rfl rfl fun a_38 HE39 => ?_
      refine pl_x HE39 HH31 (wt0 rfl) (x_move rfl) rfl rfl fun a_40 HE41 => ?_
      refine pl_x HE41 HH31 (wt0 rfl) (x_move rfl) rfl rfl fun a_42 HE43 => ?_
      have ke25 : (k - 1) < a0.length := by omega
      obtain ⟨be25, fe25, ese25, Ae25, Re25, De25⟩ := el_old h0 ke25
      obtain ⟨e25, xe25⟩ : ∃ x_, x_ = a0[(k - 1)] := ⟨_, rfl⟩
      rw [← xe25] at Re25
      have Qe25 := Re25
      obtain ⟨rfl, ie25⟩ := Re25
      have je25 := ie25; unfold I64 at je25
      have be25 := s0 e25 (by rw [xe25]; exact List.getElem_mem _)
      have de25 := div_bd6 (x := e25) (by omega : 0 < a1) dr be25
      refine pl_x HE43 HH31 (wt0 rfl) (x_indexAddr ts_31 rfl rfl Ae25 (by omega) ke25) rfl rfl fun a_44 HE45 => ?_
      refine pl_x HE45 HH31 (wt0 rfl) (x_load1 tv_2 rfl (c_old (De25 0 _ rfl))) rfl rfl fun a_46 HE47 => ?_
      refine pl_x HE47 HH31 (wt0 rfl) (x_add rfl rfl (by exact ⟨by omega, by omega⟩)) rfl rfl fun a_48 HE49 => ?_
      refine pl_x HE49 HH31 (wt0 rfl) (x_assign rfl) rfl rfl fun a_50 HE51 => ?_
      refine wpList_nil ?_
      clear a_34 HE35 a_36 HE37 a_38 HE39 a_40 HE41 a_42 HE43 a_44 HE45 a_46 HE47 a_48 HE49
      refine nrm ?_
      refine wp_seq ?_
      refine rg ?_
      refine pl_x HE51 HH31 (wt0 rfl) (x_move rfl) rfl rfl fun a_52 HE53 => ?_
      refine pl_x HE53 HH31 (wt0 rfl) (x_move rfl) rfl rfl fun a_54 HE55 => ?_
      refine pl_x HE55 HH31 (wt0 rfl) (x_move rfl) rfl rfl fun a_56 HE57 => ?_
      refine pl_x HE57 HH31 (wt0 rfl) (x_move rfl) rfl rfl fun a_58 HE59 => ?_
      refine pl_x HE59 HH31 (wt0 rfl) (x_quo rfl rfl (by omega) (by omega) (by omega)) rfl rfl fun a_60 HE61 => ?_
      have ke26 : (k - 1) < (List.replicate a0.length (0 : Int)).length := by omega
      refine pl_x HE61 HH31 (wt0 rfl) (x_indexAddr ts_31 rfl rfl rfl (by omega) ke26) rfl rfl fun a_62 HE63 => ?_
      refine pl fun K_64 hK65 => ?_
      refine st_storeI 0 HE63 HH31 tv_2 rfl rfl rfl (by first | exact ke26 | (simp only [List.length_set]; exact ke26) | omega | (simp only [List.length_set]; omega) | (simp; omega)) (by exact ⟨by omega, by omega⟩) (wt0 rfl) fun w' HH66 => hK65 _ _ ?_
      refine wpList_nil ?_
      clear a_50 HE51 a_52 HE53 a_54 HE55 a_56 HE57 a_58 HE59 a_60 HE61 HH31 hK65 K_64
      refine nrm ?_
      refine rg ?_
      refine pl_x HE63 HH66 (wt0 rfl) (x_move rfl) rfl rfl fun a_67 HE68 => ?_
      refine pl_x HE68 HH66 (wt0 rfl) (x_move rfl) rfl rfl fun a_69 HE70 => ?_
      refine pl_x HE70 HH66 (wt0 rfl) (x_rem rfl rfl (by omega) (by omega)) rfl rfl fun a_71 HE72 => ?_
      refine pl_x HE72 HH66 (wt0 rfl) (x_assign rfl) rfl rfl fun a_73 HE74 => ?_
      refine wpList_nil ?_
      clear a_62 HE63 a_67 HE68 a_69 HE70 a_71 HE72
      refine blk_n ?_
      refine nrm ?_
      refine rg ?_
      refine pl_x HE74 HH66 (wt0 rfl) (x_move rfl) rfl rfl fun a_75 HE76 => ?_
      refine pl_x HE76 HH66 (wt0 rfl) (x_sub rfl rfl (by exact ⟨by omega, by omega⟩)) rfl rfl fun a_77 HE78 => ?_
      refine pl_x HE78 HH66 (wt0 rfl) (x_assign rfl) rfl rfl fun a_79 HE80 => ?_
      refine wpList_nil ?_
      clear a_73 HE74 a_75 HE76 a_77 HE78
      have E27 : List.replicate ((k - 1)) (0 : Int) ++ (divW a1 (a0.drop ((k - 1)))).1 = ((List.replicate k (0 : Int) ++ (divW a1 (a0.drop k)).1).set (k - 1) (((((divW a1 (a0.drop k)).2) * 1000000) + e25) / a1)) := by
        exact set_divW (by omega) (by omega) (by rw [← xe25])
      exact nrm ⟨0 + ((k - 1)), (by omega), (k - 1), rfl, HE80.sub ⟨(lkI rfl (by first | (rw [rest_divW (by omega) (by omega), ← xe25]; done) | (rw [rest_divW (by omega) (by omega), ← xe25]; rfl))), (lkI rfl (by omega)), rfl, rfl, rfl, trivial⟩, ((HH66.sel [0] (by decide) rfl).to (by first | rfl | (rw [E27]; done) | (rw [E27]; rfl) | (simp only [E27]; done) | (simp only [E27]; rfl))), (by first | omega | assumption | (simp; done) | simp_all)⟩
    · refine wp_exit ?_
      refine (thn_exit (thn_exit (blk_hit ?_)))
      refine nrm ?_
      refine wp_seq ?_
      refine rg ?_
      refine pl_x HE35 HH31 (wt0 rfl) (x_move rfl) rfl rfl fun a_81 HE82 => ?_
      refine pl fun K_83 hK84 => ?_
      have HE85 := HE82.castS (t := 35) (m' := List.length (List.replicate k (0 : Int) ++ (divW a1 (a0.drop k)).1)) rfl (by first | omega | (simp; done) | (simp; omega))
      refine st_call HE85 (wt0 rfl) rfl rfl rfl en_218 rfl rfl (spec_l02Trim _ _ (List.replicate k (0 : Int) ++ (divW a1 (a0.drop k)).1) _ (HH31.sl (i := 0) rfl)) fun e w' hr => ?_
      obtain ⟨rfl, ⟨kt28, ht28⟩, rfl⟩ := hr
      have HH86 := HH31.turn (rSo eInt (fun b => b = q21) (some ⟨q21, 0, none⟩) a0.length (trimZ (List.replicate k (0 : Int) ++ (divW a1 (a0.drop k)).1))) (fun h => oSl (by rw [ht28]; exact (so_of_o h).take kt28)) (fun _ h => h)
      refine ⟨_, rfl, fun a_87 HE88 => hK84 _ _ ?_⟩
      refine pl_x HE88 HH86 (wt0 rfl) (x_move rfl) rfl rfl fun a_89 HE90 => ?_
      refine pl_x HE90 HH86 (wt0 rfl) (x_assign rfl) rfl rfl fun a_91 HE92 => ?_
      refine pl_x HE92 HH86 (wt0 rfl) (x_assign rfl) rfl rfl fun a_93 HE94 => ?_
      refine wpList_nil ?_
      clear a_34 HE35 HE82 HH31 a_81 HE85 a_87 HE88 a_89 HE90 a_91 HE92 hK84 K_83
      refine nrm ?_
      refine wp_ret ?_
      refine ret2 HE94 rfl (rv_tmp rfl) (rv_tmp rfl) ?_
      have hF : (divN a0 a1) = ((trimZ (List.replicate k (0 : Int) ++ (divW a1 (a0.drop k)).1)), (divW a1 (a0.drop k)).2) := by
        unfold divN; rw [show k = 0 from by omega]; simp
      exact ⟨(some ⟨q21, 0, none⟩), a0.length, by first | (rw [hF] <;> rfl) | rfl | (rw [hF]; simp only [Ending.returned.injEq, Value.slice.injEq, true_and, and_true]; first | omega | (simp; done)), by rw [hF]; exact (HH86.so (i := 0) rfl), HH86.below⟩

end Go.Proofs.Ytnokeoejlfodkaa
