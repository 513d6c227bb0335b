/- Reading and owning Go data in the model's memory, as plain Lean lists and tuples: definitions and lemmas that name no program. -/
import Derived.Below
import Derived.Laws.OwnMore
import Derived.Deep.AppendLies
import Derived.Deep.Draws
namespace Go.Proofs.YthfihlfjphiihaaGreatDoor
open Go.RowKit

/-- An int64. -/
def I64 (x : Int) : Prop := -9223372036854775808 ≤ x ∧ x ≤ 9223372036854775807

/-! ### Blocks known whole -/

/-- Block g is just the cells `cur` of element type t, none frozen. -/
def Blk (w : World) (g : Nat) (t : TypeId) (cur : Array Value) : Prop := w.heap[g]? = some (.cells cur t (0, 0))
section
variable {w w' : World} {g : Nat} {t : TypeId} {cur : Array Value}
theorem Blk.lt (h : Blk w g t cur) : g < w.heap.size := by
  rcases Nat.lt_or_ge g w.heap.size with hlt | hge
  · exact hlt
  · unfold Blk at h; rw [Array.getElem?_eq_none hge] at h; cases h
theorem Blk.cell (h : Blk w g t cur) (i : Nat) : w.cell? ⟨g, i, none⟩ = cur[i]? := by
  unfold Blk at h; simp [World.cell?, h]
theorem Blk.frozen (h : Blk w g t cur) (i : Nat) : w.frozen? ⟨g, i, none⟩ = false := by
  unfold Blk at h; simp [World.frozen?, h]
theorem Blk.new (w : World) (t : TypeId) (cur : Array Value) : Blk (w.alloc (.cells cur t)) w.heap.size t cur := by
  unfold Blk; show (w.heap.push _)[w.heap.size]? = _; simp
theorem Blk.alloc (h : Blk w g t cur) (o : Obj) : Blk (w.alloc o) g t cur := (Below.heap_alloc w o g h.lt).trans h
theorem Blk.drew (h : Blk w g t cur) : Blk w.drew g t cur := h
theorem Blk.drewN (h : Blk w g t cur) (n : Nat) : Blk (w.drewN n) g t cur := h
theorem Blk.set (h : Blk w g t cur) (i : Nat) (u : Value) : Blk (w.setCell ⟨g, i, none⟩ u) g t (cur.setIfInBounds i u) := by
  unfold Blk at h ⊢; simp [World.setCell, Array.getElem?_modify, h]
theorem Blk.far (h : Blk w g t cur) {p : Addr} (hp : g ≠ p.block) (u : Value) : Blk (w.setCell p u) g t cur := (Below.heap_setCell w p u g hp).trans h
theorem Blk.below {B : Nat} (h : Blk w g t cur) (hb : Below B w w') (hg : g < B) : Blk w' g t cur := (hb.block g hg).trans h
theorem Blk.on (h : Blk w g t cur) (hb : Below w.heap.size w w') : Blk w' g t cur := h.below hb h.lt
theorem Blk.of_own {base size n : Nat} {xs : List Value} {e : TypeId} {gg c : Nat} (h : w.ownsRow base e size (.slice (some ⟨gg, 0, none⟩) n c) n xs) :
    ∃ cur : Array Value, Blk w gg e cur ∧ cur.size = c * size ∧ cur.toList.take (n * size) = xs ∧ n ≤ c ∧ c ≤ maxLen := by
  rcases h.2 with ⟨h1, _⟩ | ⟨g', cap, cur, hv, _, hh, hn, hc, hs, ht⟩
  · cases h1
  · simp only [Value.slice.injEq, Option.some.injEq, Addr.mk.injEq, and_true, true_and] at hv
    obtain ⟨rfl, rfl⟩ := hv
    exact ⟨cur, hh, hs, ht, hn, hc⟩
end
theorem get_some {cur : Array Value} {i : Nat} (h : i < cur.size) : ∃ v, cur[i]? = some v := ⟨cur[i], Array.getElem?_eq_getElem h⟩
theorem lt_of_get {cur : Array Value} {i : Nat} {v : Value} (h : cur[i]? = some v) : i < cur.size := (Array.getElem?_eq_some_iff.1 h).1

/-- Values laid one after another from cell o on. -/
def setAll (cur : Array Value) (o : Nat) : List Value → Array Value
  | [] => cur
  | v :: vs => setAll (cur.setIfInBounds o v) (o + 1) vs
theorem size_setAll (vs : List Value) : ∀ (cur : Array Value) (o : Nat), (setAll cur o vs).size = cur.size := by
  induction vs with
  | nil => intro _ _; rfl
  | cons v vs ih => intro cur o; rw [setAll, ih]; simp
theorem get_setAll (vs : List Value) : ∀ (cur : Array Value) (o i : Nat), o + vs.length ≤ cur.size → (setAll cur o vs)[i]? = if o ≤ i ∧ i < o + vs.length then vs[i - o]? else cur[i]? := by
  induction vs with
  | nil => intro cur o i _; rw [if_neg (by rintro ⟨h1, h2⟩; simp only [List.length_nil] at h2; omega)]; rfl
  | cons v vs ih =>
    intro cur o i h
    simp only [List.length_cons] at h ⊢
    rw [setAll, ih _ _ _ (by simp; omega)]
    by_cases h1 : i = o
    · subst h1
      rw [if_neg (by omega), if_pos (by omega), Nat.sub_self, List.getElem?_cons_zero, Array.getElem?_setIfInBounds_self_of_lt (by omega)]
    · by_cases h2 : o + 1 ≤ i ∧ i < o + 1 + vs.length
      · rw [if_pos h2, if_pos (by omega), show i - o = (i - (o + 1)) + 1 from by omega, List.getElem?_cons_succ]
      · rw [if_neg h2, if_neg (by omega), Array.getElem?_setIfInBounds_ne (by omega)]

/-! ### What a call may change -/

/-- Nothing that was there has changed but blocks of the set S. -/
structure Chg (S : Nat → Prop) (w w' : World) : Prop where
  os : w'.os = w.os
  tape : w'.tape = w.tape
  output : w'.output = w.output
  size : w.heap.size ≤ w'.heap.size
  block : ∀ k, k < w.heap.size → ¬ S k → w'.heap[k]? = w.heap[k]?
theorem Chg.refl (S : Nat → Prop) (w : World) : Chg S w w := ⟨rfl, rfl, rfl, Nat.le_refl _, fun _ _ _ => rfl⟩
theorem Chg.trans {S : Nat → Prop} {a b c : World} (h : Chg S a b) (k : Chg S b c) : Chg S a c :=
  ⟨k.os.trans h.os, k.tape.trans h.tape, k.output.trans h.output, Nat.le_trans h.size k.size, fun i hi hs => (k.block i (Nat.lt_of_lt_of_le hi h.size) hs).trans (h.block i hi hs)⟩
theorem Chg.mono {S S' : Nat → Prop} {a b : World} (h : Chg S a b) (hS : ∀ k, S k → S' k) : Chg S' a b :=
  ⟨h.os, h.tape, h.output, h.size, fun i hi hs => h.block i hi (fun e => hs (hS i e))⟩
theorem Chg.of_below {S : Nat → Prop} {a b : World} (h : Below a.heap.size a b) : Chg S a b := ⟨h.os, h.tape, h.output, h.size, fun i hi _ => h.block i hi⟩
theorem Chg.below {S : Nat → Prop} {B : Nat} {a b : World} (h : Chg S a b) (hB : B ≤ a.heap.size) (hS : ∀ k, S k → B ≤ k) : Below B a b :=
  ⟨h.os, h.tape, h.output, h.size, fun i hi => h.block i (by omega) (fun e => by have := hS i e; omega)⟩
theorem Chg.alloc {S : Nat → Prop} {a w : World} (h : Chg S a w) (o : Obj) : Chg S a (w.alloc o) := h.trans (.of_below ((Below.refl _ _).alloc (Nat.le_refl _) o))
theorem Chg.drew {S : Nat → Prop} {a w : World} (h : Chg S a w) : Chg S a w.drew := ⟨h.os, h.tape, h.output, h.size, h.block⟩
theorem Chg.set {S : Nat → Prop} {a w : World} (h : Chg S a w) {p : Addr} (hp : S p.block) (u : Value) : Chg S a (w.setCell p u) :=
  h.trans ⟨rfl, rfl, rfl, by simp [World.setCell], fun k _ hk => Below.heap_setCell _ _ _ _ (fun e => hk (e ▸ hp))⟩
theorem Blk.chg {w w' : World} {g : Nat} {t : TypeId} {cur : Array Value} {S : Nat → Prop} (h : Blk w g t cur) (hc : Chg S w w') (hS : ¬ S g) : Blk w' g t cur := (hc.block g h.lt hS).trans h
theorem Blk.newG {w : World} {g : Nat} {t : TypeId} {cur : Array Value} (hg : g = w.heap.size) : Blk (w.alloc (.cells cur t)) g t cur := by
  subst hg; exact Blk.new w t cur
theorem below_trans {w w1 w2 : World} (h1 : Below w.heap.size w w1) (h2 : Below w1.heap.size w1 w2) : Below w.heap.size w w2 := h1.trans (h2.mono h1.size)
theorem below_drewN {B : Nat} {a w : World} (h : Below B a w) (n : Nat) : Below B a (w.drewN n) := ⟨h.os, h.tape, h.output, h.size, h.block⟩
theorem below_alloc {w w1 : World} (h1 : Below w.heap.size w w1) (o : Obj) : Below w.heap.size w (w1.alloc o) := h1.alloc h1.size o

/-- The blocks that are there. -/
def Old (w : World) (b : Nat) : Prop := b < w.heap.size
/-- The blocks from l on, below h. -/
def Iv (l h : Nat) (b : Nat) : Prop := l ≤ b ∧ b < h
/-- The blocks that came between w and w'. -/
abbrev Fr (w w' : World) : Nat → Prop := Iv w.heap.size w'.heap.size
theorem Iv.mono {l h l' h' : Nat} (h1 : l' ≤ l) (h2 : h ≤ h') (b : Nat) (hb : Iv l h b) : Iv l' h' b := ⟨Nat.le_trans h1 hb.1, Nat.lt_of_lt_of_le hb.2 h2⟩
theorem below_old {w w' : World} (hb : Below w.heap.size w w') (b : Nat) (h : Old w b) : Old w' b := Nat.lt_of_lt_of_le h hb.size
theorem below_olds {w w' : World} (hb : Below w.heap.size w w') (p : Addr) (h : Old w p.block) : w'.cell? p = w.cell? p := hb.cell h
theorem bcell {W w1 : World} (hb : Below W.heap.size W w1) : (∀ b o, b < W.heap.size → w1.cell? ⟨b, o, none⟩ = W.cell? ⟨b, o, none⟩) ∧ (∀ b o, b < W.heap.size → w1.frozen? ⟨b, o, none⟩ = W.frozen? ⟨b, o, none⟩) :=
  ⟨fun b o h => hb.cell (p := ⟨b, o, none⟩) h, fun b o h => hb.frozen (p := ⟨b, o, none⟩) h⟩

theorem Blk.new1 (w : World) (o : Obj) (t : TypeId) (cur : Array Value) : Blk ((w.alloc o).alloc (.cells cur t)) (w.heap.size + 1) t cur := by
  have := Blk.new (w.alloc o) t cur
  rwa [World.size_alloc] at this
theorem Blk.new2 (w : World) (o o' : Obj) (t : TypeId) (cur : Array Value) : Blk (((w.alloc o).alloc o').alloc (.cells cur t)) (w.heap.size + 1 + 1) t cur := by
  have := Blk.new ((w.alloc o).alloc o') t cur
  rwa [World.size_alloc, World.size_alloc] at this
/-- From block B on, w' is as w was. -/
structure Lat (B : Nat) (w w' : World) : Prop where
  size : w.heap.size ≤ w'.heap.size
  block : ∀ b, B ≤ b → b < w.heap.size → w'.heap[b]? = w.heap[b]?
theorem Lat.refl (B : Nat) (w : World) : Lat B w w := ⟨Nat.le_refl _, fun _ _ _ => rfl⟩
theorem Lat.set {B : Nat} {a w : World} (h : Lat B a w) {p : Addr} {u : Value} (hp : p.block < B) : Lat B a (w.setCell p u) :=
  ⟨by simpa [World.setCell] using h.size, fun b hb hlt => (Below.heap_setCell _ _ _ _ (by omega)).trans (h.block b hb hlt)⟩
theorem Lat.below {B : Nat} {a w w' : World} (h : Lat B a w) (hb : Below w.heap.size w w') : Lat B a w' :=
  ⟨Nat.le_trans h.size hb.size, fun b hB hlt => (hb.block b (Nat.lt_of_lt_of_le hlt h.size)).trans (h.block b hB hlt)⟩

/-! ### Codecs -/

/-- How a datum of type α lies in a run of cells. `R w S cs x`: the cells `cs` read as `x`, and all that they lead to lies in blocks of the set `S`. `O w S cs x`: besides, what they lead to is separate: each slice has a block of its own, not frozen. -/
structure Enc (α : Type) where
  size : Nat
  pos : 0 < size
  R : World → (Nat → Prop) → List Value → α → Prop
  len : ∀ {w S cs x}, R w S cs x → cs.length = size
  keep : ∀ {w w' S cs x}, R w S cs x → (∀ p : Addr, S p.block → w'.cell? p = w.cell? p) → R w' S cs x
  more : ∀ {w S S' cs x}, R w S cs x → (∀ b, S b → S' b) → R w S' cs x
  O : World → (Nat → Prop) → List Value → α → Prop
  read : ∀ {w S cs x}, O w S cs x → R w S cs x
  okeep : ∀ {w w' S cs x}, O w S cs x → (∀ b, S b → w'.heap[b]? = w.heap[b]?) → O w' S cs x
  omore : ∀ {w S S' cs x}, O w S cs x → (∀ b, S b → S' b) → O w S' cs x

/-- The slice value `.slice A xs.length c` reads as the list `xs`. -/
def Sl {α : Type} (E : Enc α) (w : World) (S : Nat → Prop) (A : Option Addr) (c : Nat) (xs : List α) : Prop :=
  xs.length ≤ c ∧ c ≤ maxLen ∧ (xs ≠ [] → ∃ b off, A = some ⟨b, off, none⟩ ∧ S b ∧ ∀ (i : Nat) (x : α), xs[i]? = some x → ∃ es, E.R w S es x ∧ ∀ j v, es[j]? = some v → w.cell? ⟨b, off + i * E.size + j, none⟩ = some v)
/-- The slice value `.slice A xs.length c` is owned and reads as the list `xs`. -/
def So {α : Type} (E : Enc α) (w : World) (S : Nat → Prop) (A : Option Addr) (c : Nat) (xs : List α) : Prop :=
  xs.length ≤ c ∧ c ≤ maxLen ∧ (xs ≠ [] → ∃ (b off : Nat) (t : TypeId) (cur : Array Value) (T : Nat → Nat → Prop), A = some ⟨b, off, none⟩ ∧ S b ∧ Blk w b t cur ∧ (∀ i k, T i k → S k ∧ k ≠ b) ∧ (∀ i j k, T i k → T j k → i = j) ∧
    ∀ (i : Nat) (x : α), xs[i]? = some x → ∃ es, E.O w (T i) es x ∧ ∀ j v, es[j]? = some v → cur[off + i * E.size + j]? = some v)

section
variable {α : Type} {E : Enc α} {w w' : World} {S S' : Nat → Prop} {c : Nat} {A : Option Addr} {xs : List α}
theorem Sl.at (h : Sl E w S A c xs) {k : Nat} (hk : k < xs.length) :
    ∃ b off es, A = some ⟨b, off, none⟩ ∧ S b ∧ E.R w S es xs[k] ∧ ∀ j v, es[j]? = some v → w.cell? ⟨b, off + k * E.size + j, none⟩ = some v := by
  obtain ⟨b, off, hA, hb, hc⟩ := h.2.2 (by intro e; subst e; simp at hk)
  obtain ⟨es, h1, h2⟩ := hc k xs[k] (List.getElem?_eq_getElem hk)
  exact ⟨b, off, es, hA, hb, h1, h2⟩
theorem Sl.at1 (h : Sl E w S A c xs) (h1 : E.size = 1) {k : Nat} (hk : k < xs.length) :
    ∃ b off es, A = some ⟨b, off, none⟩ ∧ S b ∧ E.R w S es xs[k] ∧ ∀ v, es = [v] → w.cell? ⟨b, off + k, none⟩ = some v := by
  obtain ⟨b, off, es, hA, hb, hR, hc⟩ := h.at hk
  refine ⟨b, off, es, hA, hb, hR, fun v e => ?_⟩
  subst e
  have := hc 0 v rfl; rw [h1, Nat.mul_one, Nat.add_zero] at this; exact this
theorem Sl.keep (h : Sl E w S A c xs) (hk : ∀ p : Addr, S p.block → w'.cell? p = w.cell? p) : Sl E w' S A c xs :=
  ⟨h.1, h.2.1, fun hn => by
    obtain ⟨b, off, hA, hb, hc⟩ := h.2.2 hn
    refine ⟨b, off, hA, hb, fun i x hx => ?_⟩
    obtain ⟨es, h1, h2⟩ := hc i x hx
    exact ⟨es, E.keep h1 hk, fun j v hv => (hk _ hb).trans (h2 j v hv)⟩⟩
theorem Sl.more (h : Sl E w S A c xs) (hB : ∀ b, S b → S' b) : Sl E w S' A c xs :=
  ⟨h.1, h.2.1, fun hn => by
    obtain ⟨b, off, hA, hb, hc⟩ := h.2.2 hn
    refine ⟨b, off, hA, hB _ hb, fun i x hx => ?_⟩
    obtain ⟨es, h1, h2⟩ := hc i x hx
    exact ⟨es, E.more h1 hB, h2⟩⟩
/-- The common step: what was read at the start reads so after calls that leave old memory alone. -/
theorem Sl.on (h : Sl E w (Old w) A c xs) (hb : Below w.heap.size w w') : Sl E w' (Old w') A c xs := (h.keep (below_olds hb)).more (below_old hb)
theorem Sl.len (h : Sl E w S A c xs) : xs.length ≤ 9223372036854775807 := by
  have h1 := h.1; have h2 := h.2.1; unfold maxLen at h2; omega
theorem Sl.cap (h : Sl E w S A c xs) : xs.length ≤ c := h.1
theorem Sl.nil (hc : c ≤ maxLen) : Sl E w S A c [] := ⟨Nat.zero_le _, hc, fun h => absurd rfl h⟩
theorem So.sl (h : So E w S A c xs) : Sl E w S A c xs :=
  ⟨h.1, h.2.1, fun hn => by
    obtain ⟨b, off, t, cur, T, hA, hb, hB, hT, _, hc⟩ := h.2.2 hn
    refine ⟨b, off, hA, hb, fun i x hx => ?_⟩
    obtain ⟨es, h1, h2⟩ := hc i x hx
    exact ⟨es, E.more (E.read h1) fun k hk => (hT i k hk).1, fun j v hv => by rw [hB.cell]; exact h2 j v hv⟩⟩
theorem So.keep (h : So E w S A c xs) (hk : ∀ b, S b → w'.heap[b]? = w.heap[b]?) : So E w' S A c xs :=
  ⟨h.1, h.2.1, fun hn => by
    obtain ⟨b, off, t, cur, T, hA, hb, hB, hT, hd, hc⟩ := h.2.2 hn
    refine ⟨b, off, t, cur, T, hA, hb, (hk b hb).trans hB, hT, hd, fun i x hx => ?_⟩
    obtain ⟨es, h1, h2⟩ := hc i x hx
    exact ⟨es, E.okeep h1 fun k hk' => hk k (hT i k hk').1, h2⟩⟩
theorem So.more (h : So E w S A c xs) (hB : ∀ b, S b → S' b) : So E w S' A c xs :=
  ⟨h.1, h.2.1, fun hn => by
    obtain ⟨b, off, t, cur, T, hA, hb, hBl, hT, hd, hc⟩ := h.2.2 hn
    exact ⟨b, off, t, cur, T, hA, hB _ hb, hBl, fun i k hk => ⟨hB _ (hT i k hk).1, (hT i k hk).2⟩, hd, hc⟩⟩
theorem So.nil (hc : c ≤ maxLen) : So E w S A c [] := ⟨Nat.zero_le _, hc, fun h => absurd rfl h⟩
/-- One element of an owned slice, and how the slice stands when that element has been rewritten. -/
theorem So.at (h : So E w S A c xs) {k : Nat} (hk : k < xs.length) :
    ∃ (b off : Nat) (t : TypeId) (cur : Array Value) (T : Nat → Prop) (es : List Value), A = some ⟨b, off, none⟩ ∧ S b ∧ Blk w b t cur ∧ (∀ k, T k → S k ∧ k ≠ b) ∧ E.O w T es xs[k] ∧ (∀ j v, es[j]? = some v → cur[off + k * E.size + j]? = some v) ∧
      ∀ (w' : World) (es' : List Value) (y : α), E.O w' T es' y → Blk w' b t (setAll cur (off + k * E.size) es') → (∀ m, S m → m ≠ b → ¬ T m → w'.heap[m]? = w.heap[m]?) → So E w' S A c (xs.set k y) := by
  obtain ⟨b, off, t, cur, T, hA, hb, hB, hT, hd, hc⟩ := h.2.2 (by intro e; subst e; simp at hk)
  obtain ⟨es, h1, h2⟩ := hc k xs[k] (List.getElem?_eq_getElem hk)
  refine ⟨b, off, t, cur, T k, es, hA, hb, hB, hT k, h1, h2, fun w' es' y hy hB' hout => ⟨by simpa using h.1, h.2.1, fun _ => ⟨b, off, t, _, T, hA, hb, hB', hT, hd, fun i x hx => ?_⟩⟩⟩
  have hl' := E.len (E.read hy)
  have hl := E.len (E.read h1)
  have hfit : off + k * E.size + es'.length ≤ cur.size := by
    have h0 := E.pos
    have hlast := h2 (E.size - 1) (es[E.size - 1]'(by omega)) (List.getElem?_eq_getElem _)
    have := lt_of_get hlast
    omega
  by_cases e : i = k
  · subst e
    rw [List.getElem?_set_self hk] at hx
    obtain rfl : y = x := by injection hx
    refine ⟨es', hy, fun j v hv => ?_⟩
    have hj := (List.getElem?_eq_some_iff.1 hv).1
    rw [get_setAll _ _ _ _ hfit, if_pos (by omega), Nat.add_sub_cancel_left]
    exact hv
  · rw [List.getElem?_set_ne (fun h => e h.symm)] at hx
    obtain ⟨es2, h3, h4⟩ := hc i x hx
    refine ⟨es2, E.okeep h3 fun m hm => hout m (hT i m hm).1 (hT i m hm).2 fun hmk => e (hd i k m hm hmk), fun j v hv => ?_⟩
    have hj := (List.getElem?_eq_some_iff.1 hv).1
    have hl2 := E.len (E.read h3)
    rw [get_setAll _ _ _ _ hfit, if_neg ?_]
    · exact h4 j v hv
    · rintro ⟨ha, hb'⟩
      rcases Nat.lt_or_ge i k with hik | hik
      · have : (i + 1) * E.size ≤ k * E.size := Nat.mul_le_mul_right _ (by omega)
        rw [Nat.succ_mul] at this; omega
      · have : (k + 1) * E.size ≤ i * E.size := Nat.mul_le_mul_right _ (by omega)
        rw [Nat.succ_mul] at this; omega
end
theorem So.oon {α : Type} {E : Enc α} {w0 w w' : World} {A : Option Addr} {c : Nat} {xs : List α} (h : So E w (Fr w0 w) A c xs) (hb : Below w.heap.size w w') : So E w' (Fr w0 w') A c xs :=
  (h.keep fun b hS => hb.block b hS.2).more fun _ hS => ⟨hS.1, Nat.lt_of_lt_of_le hS.2 hb.size⟩
theorem So.old {α : Type} {E : Enc α} {w0 w : World} {A : Option Addr} {c : Nat} {xs : List α} (h : So E w (Fr w0 w) A c xs) : Sl E w (Old w) A c xs := h.sl.more fun _ hS => hS.2
/-- As So.at, the rewritten block given cell by cell. -/
theorem So.at2 {α : Type} {E : Enc α} {w : World} {S : Nat → Prop} {c : Nat} {A : Option Addr} {xs : List α} (h : So E w S A c xs) {k : Nat} (hk : k < xs.length) :
    ∃ (b off : Nat) (t : TypeId) (cur : Array Value) (T : Nat → Prop) (es : List Value), A = some ⟨b, off, none⟩ ∧ S b ∧ Blk w b t cur ∧ (∀ k, T k → S k ∧ k ≠ b) ∧ E.O w T es xs[k] ∧ (∀ j v, es[j]? = some v → cur[off + k * E.size + j]? = some v) ∧
      ∀ (w' : World) (cur' : Array Value) (es' : List Value) (y : α), E.O w' T es' y → Blk w' b t cur' → (∀ j v, es'[j]? = some v → cur'[off + k * E.size + j]? = some v) → (∀ m, m < off + k * E.size ∨ off + k * E.size + E.size ≤ m → cur'[m]? = cur[m]?) →
        (∀ m, S m → m ≠ b → ¬ T m → w'.heap[m]? = w.heap[m]?) → So E w' S A c (xs.set k y) := by
  obtain ⟨b, off, t, cur, T, hA, hb, hB, hT, hd, hc⟩ := h.2.2 (by intro e; subst e; simp at hk)
  obtain ⟨es, h1, h2⟩ := hc k xs[k] (List.getElem?_eq_getElem hk)
  refine ⟨b, off, t, cur, T k, es, hA, hb, hB, hT k, h1, h2, fun w' cur' es' y hy hB' hin hst hout => ⟨by simpa using h.1, h.2.1, fun _ => ⟨b, off, t, _, T, hA, hb, hB', hT, hd, fun i x hx => ?_⟩⟩⟩
  by_cases e : i = k
  · subst e
    rw [List.getElem?_set_self hk] at hx
    obtain rfl : y = x := by injection hx
    exact ⟨es', hy, hin⟩
  · rw [List.getElem?_set_ne (fun h => e h.symm)] at hx
    obtain ⟨es2, h3, h4⟩ := hc i x hx
    refine ⟨es2, E.okeep h3 fun m hm => hout m (hT i m hm).1 (hT i m hm).2 fun hmk => e (hd i k m hm hmk), fun j v hv => ?_⟩
    have hj := (List.getElem?_eq_some_iff.1 hv).1
    have hl2 := E.len (E.read h3)
    rw [hst]
    · exact h4 j v hv
    · rcases Nat.lt_or_ge i k with hik | hik
      · have : (i + 1) * E.size ≤ k * E.size := Nat.mul_le_mul_right _ (by omega)
        rw [Nat.succ_mul] at this; omega
      · have : (k + 1) * E.size ≤ i * E.size := Nat.mul_le_mul_right _ (by omega)
        rw [Nat.succ_mul] at this; omega
theorem Enc.on {α : Type} (E : Enc α) {w w' : World} {cs : List Value} {x : α} (h : E.R w (Old w) cs x) (hb : Below w.heap.size w w') : E.R w' (Old w') cs x := E.more (E.keep h (below_olds hb)) (below_old hb)
/-- What a callee made stays owned while later callees leave it alone. -/
theorem Enc.oon {α : Type} (E : Enc α) {w0 w w' : World} {cs : List Value} {x : α} (h : E.O w (Fr w0 w) cs x) (hb : Below w.heap.size w w') : E.O w' (Fr w0 w') cs x :=
  E.omore (E.okeep h fun b hS => hb.block b hS.2) fun _ hS => ⟨hS.1, Nat.lt_of_lt_of_le hS.2 hb.size⟩
/-- What lies from block l on stays owned where only earlier blocks are written. -/
theorem Enc.lat {α : Type} (E : Enc α) {w w' : World} {l h : Nat} {cs : List Value} {x : α} (ho : E.O w (Iv l h) cs x) (hl : Lat l w w') (hh : h ≤ w.heap.size) : E.O w' (Iv l w'.heap.size) cs x :=
  E.omore (E.okeep ho fun b hS => hl.block b hS.1 (Nat.lt_of_lt_of_le hS.2 hh)) fun _ hS => ⟨hS.1, Nat.lt_of_lt_of_le hS.2 (Nat.le_trans hh hl.size)⟩
theorem So.lat {α : Type} {E : Enc α} {w w' : World} {l h : Nat} {A : Option Addr} {c : Nat} {xs : List α} (ho : So E w (Iv l h) A c xs) (hl : Lat l w w') (hh : h ≤ w.heap.size) : So E w' (Iv l w'.heap.size) A c xs :=
  (ho.keep fun b hS => hl.block b hS.1 (Nat.lt_of_lt_of_le hS.2 hh)).more fun _ hS => ⟨hS.1, Nat.lt_of_lt_of_le hS.2 (Nat.le_trans hh hl.size)⟩
theorem Enc.low {α : Type} (E : Enc α) {w : World} {l l' h : Nat} {cs : List Value} {x : α} (ho : E.O w (Iv l h) cs x) (hl : l' ≤ l) : E.O w (Iv l' h) cs x := E.omore ho fun _ hS => ⟨Nat.le_trans hl hS.1, hS.2⟩
theorem So.low {α : Type} {E : Enc α} {w : World} {l l' h : Nat} {A : Option Addr} {c : Nat} {xs : List α} (ho : So E w (Iv l h) A c xs) (hl : l' ≤ l) : So E w (Iv l' h) A c xs := ho.more fun _ hS => ⟨Nat.le_trans hl hS.1, hS.2⟩
theorem Enc.old {α : Type} (E : Enc α) {w0 w : World} {cs : List Value} {x : α} (h : E.O w (Fr w0 w) cs x) : E.R w (Old w) cs x := E.more (E.read h) fun _ hS => hS.2

/-- int64 -/
def eInt : Enc Int where
  size := 1
  pos := Nat.zero_lt_one
  R := fun _ _ cs x => cs = [.int .i64 x] ∧ I64 x
  len := by rintro _ _ _ _ ⟨rfl, _⟩; rfl
  keep := fun h _ => h
  more := fun h _ => h
  O := fun _ _ cs x => cs = [.int .i64 x] ∧ I64 x
  read := fun h => h
  okeep := fun h _ => h
  omore := fun h _ => h
/-- bool -/
def eBool : Enc Bool where
  size := 1
  pos := Nat.zero_lt_one
  R := fun _ _ cs x => cs = [.bool x]
  len := by rintro _ _ _ _ rfl; rfl
  keep := fun h _ => h
  more := fun h _ => h
  O := fun _ _ cs x => cs = [.bool x]
  read := fun h => h
  okeep := fun h _ => h
  omore := fun h _ => h
/-- string -/
def eStr : Enc ByteArray where
  size := 1
  pos := Nat.zero_lt_one
  R := fun _ _ cs x => cs = [.string x] ∧ x.size ≤ maxLen
  len := by rintro _ _ _ _ ⟨rfl, _⟩; rfl
  keep := fun h _ => h
  more := fun h _ => h
  O := fun _ _ cs x => cs = [.string x] ∧ x.size ≤ maxLen
  read := fun h => h
  okeep := fun h _ => h
  omore := fun h _ => h
/-- []T -/
def eSl {α : Type} (E : Enc α) : Enc (List α) where
  size := 1
  pos := Nat.zero_lt_one
  R := fun w S cs xs => ∃ A c, cs = [.slice A xs.length c] ∧ Sl E w S A c xs
  len := by rintro _ _ _ _ ⟨A, c, rfl, _⟩; rfl
  keep := by rintro _ _ _ _ _ ⟨A, c, rfl, h⟩ hk; exact ⟨A, c, rfl, h.keep hk⟩
  more := by rintro _ _ _ _ _ ⟨A, c, rfl, h⟩ hB; exact ⟨A, c, rfl, h.more hB⟩
  O := fun w S cs xs => ∃ A c, cs = [.slice A xs.length c] ∧ So E w S A c xs
  read := by rintro _ _ _ _ ⟨A, c, rfl, h⟩; exact ⟨A, c, rfl, h.sl⟩
  okeep := by rintro _ _ _ _ _ ⟨A, c, rfl, h⟩ hk; exact ⟨A, c, rfl, h.keep hk⟩
  omore := by rintro _ _ _ _ _ ⟨A, c, rfl, h⟩ hB; exact ⟨A, c, rfl, h.more hB⟩
/-- struct: one field ahead of the others -/
def ePr {α β : Type} (E : Enc α) (F : Enc β) : Enc (α × β) where
  size := E.size + F.size
  pos := Nat.add_pos_left E.pos _
  R := fun w S cs x => ∃ c1 c2, cs = c1 ++ c2 ∧ E.R w S c1 x.1 ∧ F.R w S c2 x.2
  len := by rintro _ _ _ _ ⟨c1, c2, rfl, h1, h2⟩; rw [List.length_append, E.len h1, F.len h2]
  keep := by rintro _ _ _ _ _ ⟨c1, c2, rfl, h1, h2⟩ hk; exact ⟨c1, c2, rfl, E.keep h1 hk, F.keep h2 hk⟩
  more := by rintro _ _ _ _ _ ⟨c1, c2, rfl, h1, h2⟩ hB; exact ⟨c1, c2, rfl, E.more h1 hB, F.more h2 hB⟩
  O := fun w S cs x => ∃ (c1 c2 : List Value) (S1 S2 : Nat → Prop), cs = c1 ++ c2 ∧ (∀ b, S1 b → S b ∧ ¬ S2 b) ∧ (∀ b, S2 b → S b) ∧ E.O w S1 c1 x.1 ∧ F.O w S2 c2 x.2
  read := by rintro _ _ _ _ ⟨c1, c2, S1, S2, rfl, k1, k2, h1, h2⟩; exact ⟨c1, c2, rfl, E.more (E.read h1) fun b hb => (k1 b hb).1, F.more (F.read h2) k2⟩
  okeep := by rintro _ _ _ _ _ ⟨c1, c2, S1, S2, rfl, k1, k2, h1, h2⟩ hk; exact ⟨c1, c2, S1, S2, rfl, k1, k2, E.okeep h1 fun b hb => hk b (k1 b hb).1, F.okeep h2 fun b hb => hk b (k2 b hb)⟩
  omore := by rintro _ _ _ _ _ ⟨c1, c2, S1, S2, rfl, k1, k2, h1, h2⟩ hB; exact ⟨c1, c2, S1, S2, rfl, fun b hb => ⟨hB b (k1 b hb).1, (k1 b hb).2⟩, fun b hb => hB b (k2 b hb), h1, h2⟩

theorem oPr {α β : Type} {E : Enc α} {F : Enc β} {w : World} {l m h : Nat} {c1 c2 : List Value} {x : α} {y : β} (h1 : E.O w (Iv l m) c1 x) (h2 : F.O w (Iv m h) c2 y) (hl : l ≤ m) (hm : m ≤ h) : (ePr E F).O w (Iv l h) (c1 ++ c2) (x, y) :=
  ⟨c1, c2, _, _, rfl, fun b hb => ⟨hb.mono (Nat.le_refl _) hm, fun hb' => by have := hb.2; have := hb'.1; omega⟩, fun b hb => hb.mono hl (Nat.le_refl _), h1, h2⟩
theorem oSl {α : Type} {E : Enc α} {w : World} {S : Nat → Prop} {A : Option Addr} {c : Nat} {xs : List α} (h : So E w S A c xs) : (eSl E).O w S [.slice A xs.length c] xs := ⟨_, _, rfl, h⟩
theorem oI {w : World} {S : Nat → Prop} {x : Int} (h : I64 x) : eInt.O w S [.int .i64 x] x := ⟨rfl, h⟩
theorem oB {w : World} {S : Nat → Prop} {x : Bool} : eBool.O w S [.bool x] x := rfl
theorem oPrI {β : Type} {F : Enc β} {w : World} {S : Nat → Prop} {c2 : List Value} {x : Int} {y : β} (h1 : I64 x) (h2 : F.O w S c2 y) : (ePr eInt F).O w S (.int .i64 x :: c2) (x, y) :=
  ⟨[_], c2, fun _ => False, S, rfl, fun _ hb => hb.elim, fun _ hb => hb, ⟨rfl, h1⟩, h2⟩

/-! ### Filling a slice that a call made -/

/-- The first k elements of xs lie in the cells cur, each with memory of its own. -/
def Filled {α : Type} (E : Enc α) (w : World) (g : Nat) (S : Nat → Prop) (cur : Array Value) (k : Nat) (xs : List α) : Prop :=
  ∃ T : Nat → Nat → Prop, (∀ i b, T i b → S b ∧ b ≠ g ∧ b < w.heap.size) ∧ (∀ i j b, T i b → T j b → i = j) ∧ ∀ (i : Nat) (x : α), i < k → xs[i]? = some x → ∃ es, E.O w (T i) es x ∧ ∀ j v, es[j]? = some v → cur[i * E.size + j]? = some v
section
variable {α : Type} {E : Enc α} {w w' : World} {S S' : Nat → Prop} {k g : Nat} {cur : Array Value} {xs : List α}
theorem Filled.zero : Filled E w g S cur 0 xs := ⟨fun _ _ => False, fun _ _ h => h.elim, fun _ _ _ h => h.elim, fun i _ h => absurd h (Nat.not_lt_zero i)⟩
theorem Filled.keep (h : Filled E w g S cur k xs) (hs : w.heap.size ≤ w'.heap.size) (hk : ∀ b, S b → b ≠ g → b < w.heap.size → w'.heap[b]? = w.heap[b]?) : Filled E w' g S cur k xs := by
  obtain ⟨T, h1, h2, h3⟩ := h
  refine ⟨T, fun i b hb => ⟨(h1 i b hb).1, (h1 i b hb).2.1, Nat.lt_of_lt_of_le (h1 i b hb).2.2 hs⟩, h2, fun i x hi hx => ?_⟩
  obtain ⟨es, h4, h5⟩ := h3 i x hi hx
  exact ⟨es, E.okeep h4 fun b hb => hk b (h1 i b hb).1 (h1 i b hb).2.1 (h1 i b hb).2.2, h5⟩
theorem Filled.on (h : Filled E w g S cur k xs) (hb : Below w.heap.size w w') : Filled E w' g S cur k xs := h.keep hb.size fun b _ _ hlt => hb.block b hlt
theorem Filled.set (h : Filled E w g S cur k xs) (o : Nat) (v : Value) : Filled E (w.setCell ⟨g, o, none⟩ v) g S cur k xs :=
  h.keep (by simp [World.setCell]) fun b _ hne _ => Below.heap_setCell _ _ _ _ hne
/-- One element more: its memory lies in blocks that came after w0. -/
theorem Filled.step {w0 : World} (h : Filled E w0 g S cur k xs) (hb : ∀ b, b ≠ g → b < w0.heap.size → w'.heap[b]? = w0.heap[b]?) (hsz : w0.heap.size ≤ w'.heap.size) {x : α} {es : List Value} (hx : xs[k]? = some x) {T0 : Nat → Prop}
    (hR : E.O w' T0 es x) (hT : ∀ b, T0 b → S b ∧ b ≠ g ∧ w0.heap.size ≤ b ∧ b < w'.heap.size) (hs : (k + 1) * E.size ≤ cur.size) :
    Filled E w' g S (setAll cur (k * E.size) es) (k + 1) xs := by
  obtain ⟨T, h1, h2, h3⟩ := h
  have hl := E.len (E.read hR)
  have hlen : k * E.size + es.length ≤ cur.size := by rw [hl]; rw [Nat.succ_mul] at hs; exact hs
  refine ⟨fun i b => (i = k ∧ T0 b) ∨ (i < k ∧ T i b), fun i b hb' => ?_, fun i j b hi hj => ?_, fun i y hi hy => ?_⟩
  · rcases hb' with ⟨rfl, h0⟩ | ⟨_, h0⟩
    · exact ⟨(hT b h0).1, (hT b h0).2.1, (hT b h0).2.2.2⟩
    · exact ⟨(h1 i b h0).1, (h1 i b h0).2.1, Nat.lt_of_lt_of_le (h1 i b h0).2.2 hsz⟩
  · rcases hi with ⟨rfl, h0⟩ | ⟨_, h0⟩ <;> rcases hj with ⟨rfl, h0'⟩ | ⟨_, h0'⟩
    · rfl
    · have := (hT b h0).2.2.1; have := (h1 j b h0').2.2; omega
    · have := (hT b h0').2.2.1; have := (h1 i b h0).2.2; omega
    · exact h2 i j b h0 h0'
  · by_cases e : i = k
    · subst e
      obtain rfl : x = y := by rw [hx] at hy; injection hy
      refine ⟨es, E.omore hR fun b hb' => Or.inl ⟨rfl, hb'⟩, fun j v hv => ?_⟩
      have hj : j < es.length := (List.getElem?_eq_some_iff.1 hv).1
      rw [get_setAll _ _ _ _ hlen, if_pos (by omega), Nat.add_sub_cancel_left]
      exact hv
    · obtain ⟨es', h4, h5⟩ := h3 i y (by omega) hy
      refine ⟨es', E.omore (E.okeep h4 fun b hb' => hb b (h1 i b hb').2.1 (h1 i b hb').2.2) fun b hb' => Or.inr ⟨by omega, hb'⟩, fun j v hv => ?_⟩
      have hj : j < es'.length := (List.getElem?_eq_some_iff.1 hv).1
      have hl' := E.len (E.read h4)
      have hm : (i + 1) * E.size ≤ k * E.size := Nat.mul_le_mul_right _ (by omega)
      rw [Nat.succ_mul] at hm
      rw [get_setAll _ _ _ _ hlen, if_neg (by omega)]
      exact h5 j v hv
theorem Filled.soFr {w0 : World} {t : TypeId} (h : Filled E w w0.heap.size (fun b => w0.heap.size ≤ b) cur xs.length xs) (hb : Blk w w0.heap.size t cur) {c : Nat} (hc : xs.length ≤ c) (hm : c ≤ maxLen) : So E w (Fr w0 w) (some ⟨w0.heap.size, 0, none⟩) c xs := by
  obtain ⟨T, h1, h2, h3⟩ := h
  refine ⟨hc, hm, fun _ => ⟨_, 0, t, cur, T, rfl, ⟨Nat.le_refl _, hb.lt⟩, hb, fun i k hk => ⟨⟨(h1 i k hk).1, (h1 i k hk).2.2⟩, (h1 i k hk).2.1⟩, h2, fun i x hx => ?_⟩⟩
  have hi : i < xs.length := (List.getElem?_eq_some_iff.1 hx).1
  obtain ⟨es, h4, h5⟩ := h3 i x hi hx
  exact ⟨es, h4, fun j v hv => by rw [Nat.zero_add]; exact h5 j v hv⟩
theorem Filled.so {t : TypeId} (h : Filled E w g S cur xs.length xs) (hb : Blk w g t cur) (hg : S g) {c : Nat} (hc : xs.length ≤ c) (hm : c ≤ maxLen) : So E w S (some ⟨g, 0, none⟩) c xs := by
  obtain ⟨T, h1, h2, h3⟩ := h
  refine ⟨hc, hm, fun _ => ⟨g, 0, t, cur, T, rfl, hg, hb, fun i k hk => ⟨(h1 i k hk).1, (h1 i k hk).2.1⟩, h2, fun i x hx => ?_⟩⟩
  have hi : i < xs.length := (List.getElem?_eq_some_iff.1 hx).1
  obtain ⟨es, h4, h5⟩ := h3 i x hi hx
  exact ⟨es, h4, fun j v hv => by rw [Nat.zero_add]; exact h5 j v hv⟩
end
end Go.Proofs.YthfihlfjphiihaaGreatDoor
