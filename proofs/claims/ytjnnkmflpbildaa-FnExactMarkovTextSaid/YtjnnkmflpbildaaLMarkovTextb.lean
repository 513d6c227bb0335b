/- What the proof of FnExactMarkovText needs: contracts of the functions that it reaches, each once. -/
import Derived.Test.YtjnnkmflpbildaaProg
import Derived.Test.YtjnnkmflpbildaaQMem
import Derived.Test.YtjnnkmflpbildaaQOpen
import Derived.Test.YtjnnkmflpbildaaLMarkovTexta
import Derived.WalkKit
import Derived.WalkSpells
import Derived.Below
import Derived.LoopTactic
import Derived.Outline
import Derived.Deep.QuietTactic
import Derived.BigQuiet
import Derived.Deep.LoopGhost
import Derived.Handy
import Derived.Lib.Hide
import Derived.Shelf.Abstract
import Derived.StillTailTactics
import Derived.OwnWalk
import Derived.Maps.AppendAt
import Derived.RegionTactic
import Derived.Deep.RegionHeld3
import Derived.IntWalk
import Derived.Deep.Upon
import Derived.Laws.OwnMore
import Derived.Maps.AppendAt
import Derived.Laws.BytesString
import Derived.Laws.Strings
import Derived.Lib.Bytes
import Derived.Lib.Strings
import Derived.Lib.FrozenHead
import Derived.Lib.RuneBytes
import Derived.Lib.LaidTab
import Derived.Lib.ItoaLen
import Derived.Lib.Join
import Derived.Shelf.Strconv.Itoa4
import Derived.Shelf.Strings.OnBuilder
import Derived.Shelf.Strings.BuilderK
import Derived.Shelf.Strings.BuilderRune
import Derived.Shelf.LaysM
import Derived.Ground.NamesProg
namespace Go.Proofs.Ytjnnkmflpbildaa
open Go.RowKit

theorem Held.lendO {w0 : World} {xs rs : List Res} {w : World} {α : Type} {E : Enc α} {cs : List Value} {x : α} (h : Held Nob w0 (xs ++ rs) w) (hs : E.R w0 (Old w0) cs x) : E.R w (Out (Foot xs) w) cs x :=
  E.more (E.keep hs (fun p hp => h.cell0 hp fun h => h)) fun b hb => ⟨Nat.lt_of_lt_of_le hb h.size, by
    rintro ⟨r, hr, hb'⟩
    rcases (h.rng r (by simp [hr]) b hb').1 with q | q
    · exact q.elim
    · have : b < w0.heap.size := hb
      omega⟩

theorem Held.lendOM {M : Nat → Prop} {w0 : World} {xs rs : List Res} {w : World} {α : Type} {E : Enc α} {cs : List Value} {x : α} (h : Held M w0 (xs ++ rs) w) (hs : E.R w0 (Out M w0) cs x) : E.R w (Out (Foot xs) w) cs x :=
  E.more (E.keep hs (fun p hp => h.cell0 hp.1 hp.2)) fun b hb => ⟨Nat.lt_of_lt_of_le hb.1 h.size, by
    rintro ⟨r, hr, hb'⟩
    rcases (h.rng r (by simp [hr]) b hb').1 with q | q
    · exact hb.2 q
    · have : b < w0.heap.size := hb.1
      omega⟩

theorem Held.nfB {M : Nat → Prop} {w0 : World} {xs rs : List Res} {w : World} (h : Held M w0 (xs ++ rs) w) {i g : Nat} {t : TypeId} {cs : List Value} (hi : rs[i]? = some (rBlk g t cs)) : ¬ Foot xs g := by
  rintro ⟨r, hr, hb'⟩
  exact (List.pairwise_append.1 h.sep).2.2 r hr _ (List.mem_of_getElem? hi) g hb' rfl

theorem block_of_cell {w : World} {b o : Nat} {v : Value} (h : w.cell? ⟨b, o, none⟩ = some v) : b < w.heap.size := by
  rcases Nat.lt_or_ge b w.heap.size with h1 | h1
  · exact h1
  · exfalso
    unfold World.cell? at h
    simp [Array.getElem?_eq_none h1] at h

theorem Held.nfO {w0 : World} {xs rs : List Res} {w : World} (h : Held Nob w0 (xs ++ rs) w) {b o : Nat} {v : Value} (hc : w0.cell? ⟨b, o, none⟩ = some v) : ¬ Foot xs b := by
  rintro ⟨r, hr, hb'⟩
  rcases (h.rng r (by simp [hr]) b hb').1 with q | q
  · exact q.elim
  · have := block_of_cell hc
    omega

theorem Held.nfOM {M : Nat → Prop} {w0 : World} {xs rs : List Res} {w : World} (h : Held M w0 (xs ++ rs) w) {b o : Nat} {v : Value} (hM : ¬ M b) (hc : w0.cell? ⟨b, o, none⟩ = some v) : ¬ Foot xs b := by
  rintro ⟨r, hr, hb'⟩
  rcases (h.rng r (by simp [hr]) b hb').1 with q | q
  · exact hM q
  · have := block_of_cell hc
    omega

/-- The flat part in front given up. -/
theorem Held.unF {M : Nat → Prop} {w0 : World} {rs : List Res} {w : World} {α β : Type} {E : Enc α} {F : Enc β} {S : Nat → Prop} {v : Value} {cs : List Value} {x : α × β} (h1 : E.size = 1) (h : Held M w0 (rO (ePr E F) S (v :: cs) x :: rs) w) : Held M w0 (rO F S cs x.2 :: rs) w := by
  refine h.turn _ ?_ fun _ hb => hb
  rintro ⟨c1, c2, S1, S2, he, k1, k2, o1, o2⟩
  have hl := E.len (E.read o1)
  rw [h1] at hl
  obtain ⟨u, rfl⟩ := List.length_eq_one_iff.1 hl
  simp at he
  obtain ⟨_, rfl⟩ := he
  exact F.omore o2 k2

theorem Held.unP {M : Nat → Prop} {w0 : World} {rs : List Res} {w : World} {α β : Type} {E : Enc α} {F : Enc β} {S : Nat → Prop} {v : Value} {cs : List Value} {x : α × β} (h1 : E.size = 1) (h : Held M w0 (rO (ePr E F) S (v :: cs) x :: rs) w) : ∃ S1 S2, Held M w0 (rO E S1 [v] x.1 :: rO F S2 cs x.2 :: rs) w := by
  obtain ⟨c1, c2, S1, S2, he, k1, k2, o1, o2⟩ := h.ok _ (List.mem_cons_self)
  have hl := E.len (E.read o1)
  rw [h1] at hl
  obtain ⟨u, rfl⟩ := List.length_eq_one_iff.1 hl
  simp at he
  obtain ⟨rfl, rfl⟩ := he
  have hs := List.pairwise_cons.1 h.sep
  refine ⟨S1, S2, h.chg, ?_, ?_, ?_⟩
  · intro r hr
    simp only [List.mem_cons] at hr
    rcases hr with rfl | rfl | hr
    · exact o1
    · exact o2
    · exact h.ok r (by simp [hr])
  · intro r hr b hb
    simp only [List.mem_cons] at hr
    rcases hr with rfl | rfl | hr
    · exact h.rng _ (List.mem_cons_self) b (k1 b hb).1
    · exact h.rng _ (List.mem_cons_self) b (k2 b hb)
    · exact h.rng r (by simp [hr]) b hb
  · refine List.pairwise_cons.2 ⟨fun r hr b hb hb' => ?_, List.pairwise_cons.2 ⟨fun r hr b hb hb' => hs.1 r hr b (k2 b hb) hb', hs.2⟩⟩
    rcases List.mem_cons.1 hr with rfl | hr
    · exact (k1 b hb).2 hb'
    · exact hs.1 r hr b (k1 b hb).1 hb'

/-- An owned slice with one element laid open: its cells es; what the element owns (T) is held apart. -/
def Foc {α : Type} (E : Enc α) (w : World) (S : Nat → Prop) (b off c : Nat) (xs : List α) (k : Nat) (es : List Value) : Prop :=
  k < xs.length ∧ xs.length ≤ c ∧ c ≤ maxLen ∧ S b ∧ es.length = E.size ∧ ∃ (t : TypeId) (cur : Array Value) (T : Nat → Nat → Prop), Blk w b t cur ∧ (∀ i m, T i m → S m ∧ m ≠ b) ∧ (∀ i j m, T i m → T j m → i = j) ∧
    (∀ j v, es[j]? = some v → cur[off + k * E.size + j]? = some v) ∧ ∀ (i : Nat) (x : α), i ≠ k → xs[i]? = some x → ∃ us, E.O w (T i) us x ∧ ∀ j v, us[j]? = some v → cur[off + i * E.size + j]? = some v

theorem Foc.keep {α : Type} {E : Enc α} {w w' : World} {S : Nat → Prop} {b off c : Nat} {xs : List α} {k : Nat} {es : List Value} (h : Foc E w S b off c xs k es) (hk : ∀ b, S b → w'.heap[b]? = w.heap[b]?) : Foc E w' S b off c xs k es := by
  obtain ⟨h1, h2, h3, h4, h5, t, cur, T, hB, hT, hd, hc, hr⟩ := h
  refine ⟨h1, h2, h3, h4, h5, t, cur, T, (hk b h4).trans hB, hT, hd, hc, fun i x hi hx => ?_⟩
  obtain ⟨us, q1, q2⟩ := hr i x hi hx
  exact ⟨us, E.okeep q1 fun m hm => hk m (hT i m hm).1, q2⟩

def rFoc {α : Type} (E : Enc α) (S : Nat → Prop) (b off c : Nat) (xs : List α) (k : Nat) (es : List Value) : Res := ⟨S, fun w => Foc E w S b off c xs k es, fun _ _ h hf => hf.keep h⟩

theorem Held.open {M : Nat → Prop} {w0 : World} {rs : List Res} {w : World} {α : Type} {E : Enc α} {S : Nat → Prop} {A : Option Addr} {c : Nat} {xs : List α} (h : Held M w0 (rSo E S A c xs :: rs) w) {k : Nat} (hk : k < xs.length) :
    ∃ b off es T, A = some ⟨b, off, none⟩ ∧ E.R w (Old w) es xs[k] ∧ (∀ m, T m → S m ∧ m ≠ b) ∧ Held M w0 (rFoc E (fun m => S m ∧ ¬ T m) b off c xs k es :: rO E T es xs[k] :: rs) w := by
  have hso := so_of_o (h.ok _ (List.mem_cons_self))
  have hrng := h.rng _ (List.mem_cons_self)
  obtain ⟨b, off, t, cur, T, hA, hb, hB, hT, hd, hc⟩ := hso.2.2 (by intro e; subst e; simp at hk)
  obtain ⟨es, h1, h2⟩ := hc k xs[k] (List.getElem?_eq_getElem hk)
  have hs := List.pairwise_cons.1 h.sep
  refine ⟨b, off, es, T k, hA, E.more (E.read h1) (fun m hm => (hrng m (hT k m hm).1).2), fun m hm => hT k m hm, h.chg, ?_, ?_, ?_⟩
  · intro r hr
    simp only [List.mem_cons] at hr
    rcases hr with rfl | rfl | hr
    · refine ⟨hk, hso.1, hso.2.1, ⟨hb, fun hm => (hT k b hm).2 rfl⟩, E.len (E.read h1), t, cur, fun i m => i ≠ k ∧ T i m, hB, fun i m hm => ⟨⟨(hT i m hm.2).1, fun hm' => hm.1 (hd i k m hm.2 hm')⟩, (hT i m hm.2).2⟩, fun i j m h3 h4 => hd i j m h3.2 h4.2, h2, fun i x hi hx => ?_⟩
      obtain ⟨us, q1, q2⟩ := hc i x hx
      exact ⟨us, E.omore q1 fun m hm => ⟨hi, hm⟩, q2⟩
    · exact h1
    · exact h.ok r (by simp [hr])
  · intro r hr m hm
    simp only [List.mem_cons] at hr
    rcases hr with rfl | rfl | hr
    · exact hrng m hm.1
    · exact hrng m (hT k m hm).1
    · exact h.rng r (by simp [hr]) m hm
  · refine List.pairwise_cons.2 ⟨fun r hr m hm hm' => ?_, List.pairwise_cons.2 ⟨fun r hr m hm hm' => hs.1 r hr m (hT k m hm).1 hm', hs.2⟩⟩
    rcases List.mem_cons.1 hr with rfl | hr
    · exact hm.2 hm'
    · exact hs.1 r hr m hm.1 hm'

theorem Held.shut {M : Nat → Prop} {w0 : World} {rs : List Res} {w : World} {α : Type} {E : Enc α} {S T : Nat → Prop} {b off c k : Nat} {xs : List α} {es : List Value} {y : α} (h : Held M w0 (rFoc E S b off c xs k es :: rO E T es y :: rs) w) : Held M w0 (rSo E (fun m => S m ∨ T m) (some ⟨b, off, none⟩) c (xs.set k y) :: rs) w := by
  refine h.join _ (fun hf ho hd => ?_) fun _ hb => hb
  obtain ⟨h1, h2, h3, h4, h5, t, cur, T', hB, hT, hd', hc, hr⟩ := hf
  refine oSl ⟨by rw [List.length_set]; exact h2, h3, fun _ => ⟨b, off, t, cur, fun i m => (i = k ∧ T m) ∨ (i ≠ k ∧ T' i m), rfl, .inl h4, hB, ?_, ?_, fun i x hx => ?_⟩⟩
  · rintro i m (⟨_, hm⟩ | ⟨_, hm⟩)
    · exact ⟨.inr hm, fun e => hd b h4 (e ▸ hm)⟩
    · exact ⟨.inl (hT i m hm).1, (hT i m hm).2⟩
  · rintro i j m (⟨hi, hm⟩ | ⟨hi, hm⟩) (⟨hj, hm'⟩ | ⟨hj, hm'⟩)
    · rw [hi, hj]
    · exact absurd hm (hd m (hT j m hm').1)
    · exact absurd hm' (hd m (hT i m hm).1)
    · exact hd' i j m hm hm'
  · by_cases e : i = k
    · subst e
      rw [List.getElem?_set_self h1] at hx
      simp at hx; subst hx
      exact ⟨es, E.omore ho fun m hm => .inl ⟨rfl, hm⟩, hc⟩
    · rw [List.getElem?_set_ne (fun h => e h.symm)] at hx
      obtain ⟨us, q1, q2⟩ := hr i x e hx
      exact ⟨us, E.omore q1 fun m hm => .inr ⟨e, hm⟩, q2⟩

theorem Held.relen {M : Nat → Prop} {w0 : World} {rs : List Res} {w : World} {α : Type} {E : Enc α} {S : Nat → Prop} {A : Option Addr} {c n : Nat} {xs : List α} (h : Held M w0 (rSo E S A c xs :: rs) w) (hn : xs.length = n) : Held M w0 (rO (eSl E) S [.slice A n c] xs :: rs) w := hn ▸ h

theorem Held.lt {M : Nat → Prop} {w0 : World} {rs : List Res} {w : World} (h : Held M w0 rs w) {i : Nat} {r : Res} (hi : rs[i]? = some r) : ∀ b, r.S b → b < w.heap.size := fun b hb => (h.rng r (List.mem_of_getElem? hi) b hb).2

/-- What a callee made, beside what is held. -/
theorem Held.app {M : Nat → Prop} {w0 : World} {rs qs : List Res} {w w' : World} (h : Held M w0 rs w) (h' : Held Nob w qs w') : Held M w0 (qs ++ rs) w' where
  chg := (h.on h'.below).chg
  ok := by
    intro r hr
    rcases List.mem_append.1 hr with hr | hr
    · exact h'.ok r hr
    · exact (h.on h'.below).ok r hr
  rng := by
    intro r hr b hb
    rcases List.mem_append.1 hr with hr | hr
    · have h1 := h'.rng r hr b hb
      exact ⟨.inr (Nat.le_trans h.size (h1.1.resolve_left fun q => q.elim)), h1.2⟩
    · exact (h.on h'.below).rng r hr b hb
  sep := by
    refine List.pairwise_append.2 ⟨h'.sep, h.sep, fun r hr s hs b hb hb' => ?_⟩
    have h1 := (h'.rng r hr b hb).1.resolve_left fun q => q.elim
    have h2 := (h.rng s hs b hb').2
    omega

/-- Held only if p holds. -/
def rIf (p : Prop) (r : Res) : Res := ⟨r.S, fun w => p → r.φ w, fun w w' h hp hq => r.loc w w' h (hp hq)⟩

theorem Held.toIf {M : Nat → Prop} {w0 : World} {rs : List Res} {r : Res} {w : World} (h : Held M w0 (r :: rs) w) (p : Prop) : Held M w0 (rIf p r :: rs) w :=
  h.turn (rIf p r) (fun hr _ => hr) fun _ h => h

theorem Held.ofIf {M : Nat → Prop} {w0 : World} {rs : List Res} {r : Res} {w : World} {p : Prop} (h : Held M w0 (rIf p r :: rs) w) (hp : p) : Held M w0 (r :: rs) w :=
  h.turn r (fun hr => hr hp) fun _ h => h

theorem Held.noIf {M : Nat → Prop} {w0 : World} {rs : List Res} {w : World} {p : Prop} (h : Held M w0 rs w) {α : Type} {E : Enc α} {A : Option Addr} {c : Nat} {xs : List α} (r : Res) (hp : ¬ p) (hr : r = rSo E Nob A c xs := by rfl) : Held M w0 (rIf p r :: rs) w := by
  subst hr
  exact h.new (Below.refl _ _) (rIf p (rSo E Nob A c xs)) (fun hq => absurd hq hp) fun _ h => h.elim

abbrev bs (l : List UInt8) : ByteArray := ⟨l.toArray⟩

theorem bs_size (l : List UInt8) : (bs l).size = l.length := by simp [bs, ByteArray.size]

theorem bs_toList (l : List UInt8) : (bs l).toList = l := by rw [Go.Lib.toList_data]

theorem bs_app (a b : List UInt8) : bs a ++ bs b = bs (a ++ b) := by
  rw [ByteArray.mk_append_mk]

theorem lkS {t : Nat} {L : List (Nat × Value)} {x y : List UInt8} (h : lk t L = some (.string (bs x))) (e : x = y) : lk t L = some (.string (bs y)) := e ▸ h

/-- A byte of a row of bytes. -/
def eByte : Enc Int where
  size := 1
  pos := Nat.zero_lt_one
  R := fun _ _ cs x => cs = [.int .u8 x] ∧ 0 ≤ x ∧ x ≤ 255
  len := by rintro _ _ _ _ ⟨rfl, _⟩; rfl
  keep := fun h _ => h
  more := fun h _ => h
  O := fun _ _ cs x => cs = [.int .u8 x] ∧ 0 ≤ x ∧ x ≤ 255
  read := fun h => h
  okeep := fun h _ => h
  omore := fun h _ => h

/-- A text. -/
def eTxt : Enc (List UInt8) where
  size := 1
  pos := Nat.zero_lt_one
  R := fun _ _ cs x => cs = [.string (bs x)] ∧ x.length ≤ 9223372036854775807
  len := by rintro _ _ _ _ ⟨rfl, _⟩; rfl
  keep := fun h _ => h
  more := fun h _ => h
  O := fun _ _ cs x => cs = [.string (bs x)] ∧ x.length ≤ 9223372036854775807
  read := fun h => h
  okeep := fun h _ => h
  omore := fun h _ => h

theorem oY {w : World} {S : Nat → Prop} {x : Int} (h : 0 ≤ x ∧ x ≤ 255) : eByte.O w S [.int .u8 x] x := ⟨rfl, h⟩

theorem oS {w : World} {S : Nat → Prop} {x : List UInt8} (h : x.length ≤ 9223372036854775807) : eTxt.O w S [.string (bs x)] x := ⟨rfl, h⟩

theorem x_sadd {P : Program} {S : World → Prop} {L : List (Nat × Value)} {d : Option Tmp} {t t' : TypeId} {x y : Operand} {m k : List UInt8} {ty : TypeId} {pos : String} {af : Array Edge} {g : Option (Nat × Bool)} (hx : ev L x = some (.string (bs m))) (hy : ev L y = some (.string (bs k))) (h : m.length + k.length ≤ 9223372036854775807) : XS P S L ⟨d, .binOp .add t x y t', ty, pos, af, g⟩ (.string (bs (m ++ k))) := fun _ _ _ hE _ => by
  have e : ¬ (((bs m).size + (bs k).size : Nat) : Int) > IntKind.i64.max := by
    rw [bs_size, bs_size]; show ¬ _ > (9223372036854775807 : Int); omega
  simp only [execOp, hE.ev hx, hE.ev hy, eqGuard, binOp, Op.stringOp, if_neg e, bs_app]; rfl

theorem beq_dec (m k : List UInt8) : (m == k) = decide (m = k) := by
  by_cases h : m = k <;> simp [h]

theorem x_sneqB {P : Program} {S : World → Prop} {L : List (Nat × Value)} {d : Option Tmp} {t t' : TypeId} {x y : Operand} {m k : List UInt8} {ty : TypeId} {pos : String} {af : Array Edge} {g : Option (Nat × Bool)} (hx : ev L x = some (.string (bs m))) (hy : ev L y = some (.string (bs k))) : XS P S L ⟨d, .binOp .neq t x y t', ty, pos, af, g⟩ (.bool (!decide (m = k))) := by
  have := x_sneq (P := P) (S := S) (d := d) (t := t) (t' := t') (ty := ty) (pos := pos) (af := af) (g := g) hx hy
  rwa [bs_toList, bs_toList, beq_dec] at this

theorem x_conv8 {P : Program} {S : World → Prop} {L : List (Nat × Value)} {d : Option Tmp} {s t : TypeId} {x : Operand} {q : IntKind} {m : Int} {ty : TypeId} {pos : String} {af : Array Edge} {g : Option (Nat × Bool)} {sd : TypeDesc} (hs : P.underlying s = some sd) (ht : P.underlying t = some (.int .u8)) (hx : ev L x = some (.int q m)) (h : 0 ≤ m ∧ m ≤ 255) : XS P S L ⟨d, .convert s t x, ty, pos, af, g⟩ (.int .u8 m) := fun _ _ _ hE _ => by
  have e : IntKind.u8.wrap m = m := IntWalk.u8_in _ h
  simp [execOp, hE.ev hx, convert, run_underlying hs, run_underlying ht, Conv.intToInt, e]

theorem loadCells_sl {P : Program} {w : World} {b off c : Nat} {S : Nat → Prop} {xs : List Int} (h : Sl eByte w S (some ⟨b, off, none⟩) c xs) : (loadCells ⟨b, off, none⟩ xs.length).run P w = .ok (xs.map (Value.int .u8)).toArray w := by
  have key : ∀ (ys : List Int) (i : Nat) (acc : Array Value), (∀ (j : Nat) (y : Int), ys[j]? = some y → w.cell? ⟨b, off + (i + j), none⟩ = some (.int .u8 y)) → (loadCellsFrom ⟨b, off, none⟩ i ys.length acc).run P w = .ok (acc ++ (ys.map (Value.int .u8)).toArray) w := by
    intro ys
    induction ys with
    | nil => intro i acc _; simp [loadCellsFrom, Sem.run_pure]
    | cons y ys ih =>
      intro i acc hc
      have h0 := hc 0 y rfl
      rw [Nat.add_zero] at h0
      have hl : (load (Addr.add ⟨b, off, none⟩ i)).run P w = .ok (.int .u8 y) w := by
        rw [add_none]; simp [load, Sem.run, h0]
      have h1 := ih (i + 1) (acc.push (.int .u8 y)) fun j z hz => by
        have := hc (j + 1) z (by simpa using hz)
        rwa [show off + (i + (j + 1)) = off + (i + 1 + j) from by omega] at this
      simp only [List.length_cons, loadCellsFrom, Sem.run_bind, hl, Result.andThen_ok, h1]
      simp
  refine (key xs 0 #[] fun j y hy => ?_).trans (by simp)
  have hj := (List.getElem?_eq_some_iff.1 hy).1
  obtain ⟨b', off', es, hA, _, hR, hc⟩ := h.at hj
  simp only [Option.some.injEq, Addr.mk.injEq, and_true] at hA
  obtain ⟨rfl, rfl⟩ := hA
  obtain ⟨rfl, _⟩ := hR
  have h2 := hc 0 _ rfl
  have h3 : xs[j] = y := by rw [List.getElem?_eq_getElem hj] at hy; exact Option.some.inj hy
  rw [h3] at h2
  rwa [show off + j * eByte.size + 0 = off + (0 + j) from by simp [eByte]] at h2

theorem push_bytes : ∀ (ns : List Int) (l : List UInt8), ns.foldl (fun r n => r.push (UInt8.ofNat n.toNat)) (bs l) = bs (l ++ Go.Lib.bytesOf ns)
  | [], l => by simp [Go.Lib.bytesOf]
  | n :: ns, l => by
    have e : (bs l).push (UInt8.ofNat n.toNat) = bs (l ++ [UInt8.ofNat n.toNat]) := by simp [bs, ByteArray.push]
    rw [List.foldl_cons, e, push_bytes ns]
    simp [Go.Lib.bytesOf]

theorem x_bytes {P : Program} {S : World → Prop} {L : List (Nat × Value)} {d : Option Tmp} {s t e : TypeId} {x : Operand} {A : Option Addr} {c : Nat} {xs : List Int} {ty : TypeId} {pos : String} {af : Array Edge} {g : Option (Nat × Bool)} (hs : P.underlying s = some (.slice e)) (he : P.underlying e = some (.int .u8)) (ht : P.underlying t = some .string) (hx : ev L x = some (.slice A xs.length c)) (hr : ∀ w, S w → Sl eByte w (Old w) A c xs) : XS P S L ⟨d, .convert s t x, ty, pos, af, g⟩ (.string (bs (Go.Lib.bytesOf xs))) := fun _ _ w hE hS => by
  have h := hr w hS
  have hb : (Conv.bytesToString (.slice A xs.length c)).run P w = .ok (.string (bs (Go.Lib.bytesOf xs))) w := by
    by_cases hn : xs = []
    · subst hn
      cases A with
      | none => rfl
      | some p =>
        have := run_bytesToString (P := P) w p 0 c [] rfl
        exact this
    · obtain ⟨b, off, rfl, _⟩ := h.2.2 hn
      have := run_bytesToString (P := P) w ⟨b, off, none⟩ xs.length c xs (loadCells_sl h)
      rw [this]
      have e2 := push_bytes xs []
      rw [List.nil_append] at e2
      rw [← e2]; rfl
  simp only [execOp, hE.ev hx, convert, Sem.run_bind, run_underlying hs, run_underlying ht, run_underlying he, Result.andThen_ok, hb]
  rfl

theorem x_conv32 {P : Program} {S : World → Prop} {L : List (Nat × Value)} {d : Option Tmp} {s t : TypeId} {x : Operand} {q : IntKind} {m : Int} {ty : TypeId} {pos : String} {af : Array Edge} {g : Option (Nat × Bool)} {sd : TypeDesc} (hs : P.underlying s = some sd) (ht : P.underlying t = some (.int .i32)) (hx : ev L x = some (.int q m)) (h : -2147483648 ≤ m ∧ m ≤ 2147483647) : XS P S L ⟨d, .convert s t x, ty, pos, af, g⟩ (.int .i32 m) := fun _ _ _ hE _ => by
  have e : IntKind.i32.wrap m = m := IntWalk.i32_in _ h
  simp [execOp, hE.ev hx, convert, run_underlying hs, run_underlying ht, Conv.intToInt, e]

/-- A builder in block b, its own blocks in S, holding the bytes l. -/
def BldIn (T e : TypeId) (B b : Nat) (S : Nat → Prop) (l : List UInt8) (w : World) : Prop :=
  Lib.IsBuilderF T e B b (Lib.byteCells l) w ∧ S b ∧ ∀ p v g, w.heap[b]? = some (.cells #[p, v] T (0, 0)) → v.ownBlock = some g → S g

theorem BldIn.loc {T e : TypeId} {B b : Nat} {S : Nat → Prop} {l : List UInt8} {w w' : World} (hs : ∀ k, S k → w'.heap[k]? = w.heap[k]?) (h : BldIn T e B b S l w) : BldIn T e B b S l w' := by
  obtain ⟨h1, h2, h3⟩ := h
  have key : ∀ p, Lib.BuilderAtF T e B b p (Lib.byteCells l) w → Lib.BuilderAtF T e B b p (Lib.byteCells l) w' := by
    rintro p ⟨hB, v, hb, hown, hne⟩
    refine ⟨hB, v, (hs b h2).trans hb, ⟨hown.1, ?_⟩, hne⟩
    rcases hown.2 with hn | ⟨g, cap, cur, fz, rfl, hbg, hg, rest⟩
    · exact .inl hn
    · exact .inr ⟨g, cap, cur, fz, rfl, hbg, (hs g (h3 _ _ g hb (by simp [Value.ownBlock]))).trans hg, rest⟩
  refine ⟨?_, h2, fun p v g hb hv => h3 p v g ((hs b h2).symm.trans hb) hv⟩
  rcases h1 with h | h
  · exact .inl (key _ h)
  · exact .inr (key _ h)

def rBldT (T e : TypeId) (B b : Nat) (S : Nat → Prop) (l : List UInt8) : Res := ⟨S, BldIn T e B b S l, fun _ _ hs h => BldIn.loc hs h⟩

theorem BldIn.mk {T e : TypeId} {B b : Nat} {l : List UInt8} {w : World} (h : Lib.IsBuilderF T e B b (Lib.byteCells l) w) : BldIn T e B b (Iv B w.heap.size) l w := by
  have hb : B ≤ b ∧ b < w.heap.size := by
    rcases h with h | h
    · exact ⟨h.1, h.lt⟩
    · exact ⟨h.1, h.lt⟩
  refine ⟨h, hb, fun p v g hh hv => ?_⟩
  have key : ∀ q, Lib.BuilderAtF T e B b q (Lib.byteCells l) w → Iv B w.heap.size g := by
    rintro q ⟨_, v', hb', hown, _⟩
    rw [hh] at hb'
    simp only [Option.some.injEq, Obj.cells.injEq, and_true] at hb'
    have e2 : v = v' := by
      have := congrArg (fun a : Array Value => a[1]?) hb'
      simpa using this
    subst e2
    exact hown.lt g hv
  rcases h with h | h
  · exact key _ h
  · exact key _ h

theorem Held.bldCall {T e : TypeId} {w0 w w' : World} {b : Nat} {S : Nat → Prop} {l l' : List UInt8} (h : Held Nob w0 [rBldT T e w0.heap.size b S l] w) (hb : Below w0.heap.size w w') (hi : Lib.IsBuilderF T e w0.heap.size b (Lib.byteCells l') w') : ∃ S', Held Nob w0 [rBldT T e w0.heap.size b S' l'] w' := by
  refine ⟨Iv w0.heap.size w'.heap.size, ?_⟩
  have hb2 : Below w0.heap.size w0 w' := h.below.trans hb
  exact ⟨.of_below hb2, by intro r hr; obtain rfl := List.mem_singleton.1 hr; exact BldIn.mk hi, by intro r hr; obtain rfl := List.mem_singleton.1 hr; exact fun k hk => ⟨.inr hk.1, hk.2⟩, List.pairwise_singleton _ _⟩

theorem Held.toBld {T e : TypeId} {w0 w : World} {b : Nat} {rs : List Res} (h : Held Nob w0 (rBlk b T [.pointer none, .slice none 0 0] :: rs) w) : ∃ S, Held Nob w0 [rBldT T e w0.heap.size b S []] w := by
  have hB : Blk w b T #[.pointer none, .slice none 0 0] := h.ok _ List.mem_cons_self
  have hr := h.rng _ (List.mem_cons_self) b rfl
  have hle : w0.heap.size ≤ b := hr.1.resolve_left fun x => x.elim
  have hi : Lib.IsBuilderF T e w0.heap.size b (Lib.byteCells []) w := .inl ⟨hle, _, hB, by simpa [Lib.byteCells] using World.ownsRowF_nil w w0.heap.size e 1, by simp [Value.ownBlock]⟩
  refine ⟨Iv w0.heap.size w.heap.size, ⟨h.chg, ?_, ?_, List.pairwise_singleton _ _⟩⟩
  · intro r hr; obtain rfl := List.mem_singleton.1 hr; exact BldIn.mk hi
  · intro r hr; obtain rfl := List.mem_singleton.1 hr; exact fun k hk => ⟨.inr hk.1, hk.2⟩

theorem Held.isBld {T e : TypeId} {M : Nat → Prop} {w0 w : World} {B b : Nat} {S : Nat → Prop} {l : List UInt8} {rs : List Res} (h : Held M w0 (rBldT T e B b S l :: rs) w) : Lib.IsBuilderF T e B b (Lib.byteCells l) w := (h.ok _ List.mem_cons_self : BldIn T e B b S l w).1

theorem byteCells_app (a b : List UInt8) : Lib.byteCells (a ++ b) = Lib.byteCells a ++ Lib.byteCells b := by simp [Lib.byteCells]

theorem byteCells_len (a : List UInt8) : (Lib.byteCells a).length = a.length := by simp [Lib.byteCells]

theorem runeCells_ascii {r : Int} (h0 : 0 ≤ r) (h1 : r < 128) : Lib.runeCells r = Lib.byteCells [UInt8.ofNat r.toNat] := by
  rw [← Lib.byteCells_encodeRune]
  unfold Lib.encodeRune Lib.encodeRuneZ
  rw [if_pos ⟨h0, by omega⟩]
  simp [Lib.byteCells]

theorem x_add32 {P : Program} {S : World → Prop} {L : List (Nat × Value)} {d : Option Tmp} {t t' : TypeId} {x y : Operand} {m k : Int} {ty : TypeId} {pos : String} {af : Array Edge} {g : Option (Nat × Bool)} (hx : ev L x = some (.int .i32 m)) (hy : ev L y = some (.int .i32 k)) (h : -2147483648 ≤ m + k ∧ m + k ≤ 2147483647) : XS P S L ⟨d, .binOp .add t x y t', ty, pos, af, g⟩ (.int .i32 (m + k)) := fun _ _ _ hE _ => by
  have e : IntKind.i32.wrap (m + k) = m + k := IntWalk.i32_in _ h
  simp only [execOp, hE.ev hx, hE.ev hy, eqGuard, binOp, Op.intArith, e]; rfl

theorem tv_2 : TV Try.prog 2 false [.int .i64 0] := by
  obtain ⟨i, h1, h2, h3⟩ := tv_parts (show (Try.prog.info? 2).map (fun i => (i.zero, i.size)) = some (some (.int .i64 0), 1) from by kernel_rfl)
  exact ⟨⟨_, Try.underlying2, rfl⟩, i, _, h1, h2, h3, rfl⟩

theorem tv_4 : TV Try.prog 4 false [.bool false] := by
  obtain ⟨i, h1, h2, h3⟩ := tv_parts (show (Try.prog.info? 4).map (fun i => (i.zero, i.size)) = some (some (.bool false), 1) from by kernel_rfl)
  exact ⟨⟨_, Try.underlying4, rfl⟩, i, _, h1, h2, h3, rfl⟩

theorem tv_45 : TV Try.prog 45 false [.slice none 0 0] := by
  obtain ⟨i, h1, h2, h3⟩ := tv_parts (show (Try.prog.info? 45).map (fun i => (i.zero, i.size)) = some (some (.slice none 0 0), 1) from by kernel_rfl)
  exact ⟨⟨_, Try.underlying45, rfl⟩, i, _, h1, h2, h3, rfl⟩

theorem tv_68 : TV Try.prog 68 true [.slice none 0 0, .slice none 0 0, .bool false] := by
  obtain ⟨i, h1, h2, h3⟩ := tv_parts (show (Try.prog.info? 68).map (fun i => (i.zero, i.size)) = some (some (.agg #[.slice none 0 0, .slice none 0 0, .bool false]), 3) from by kernel_rfl)
  exact ⟨⟨_, Try.underlying68, rfl⟩, i, _, h1, h2, h3, rfl⟩

theorem tv_103 : TV Try.prog 103 true [.pointer none, .slice none 0 0] := by
  obtain ⟨i, h1, h2, h3⟩ := tv_parts (show (Try.prog.info? 103).map (fun i => (i.zero, i.size)) = some (some (.agg #[.pointer none, .slice none 0 0]), 2) from by kernel_rfl)
  exact ⟨⟨_, Try.underlying103, rfl⟩, i, _, h1, h2, h3, rfl⟩

theorem ts_32 : TSl Try.prog 32 68 3 56 := by
  obtain ⟨i, h1, h2, h3, h4⟩ := ts_parts (show (Try.prog.info? 68).map (fun i => (i.zero, i.size, i.bytes)) = some (some (.agg #[.slice none 0 0, .slice none 0 0, .bool false]), 3, 56) from by kernel_rfl)
  exact ⟨Try.underlying32, i, _, h1, h2, h3, h4, rfl⟩

theorem ts_45 : TSl Try.prog 45 2 1 8 := by
  obtain ⟨i, h1, h2, h3, h4⟩ := ts_parts (show (Try.prog.info? 2).map (fun i => (i.zero, i.size, i.bytes)) = some (some (.int .i64 0), 1, 8) from by kernel_rfl)
  exact ⟨Try.underlying45, i, _, h1, h2, h3, h4, rfl⟩

theorem ts_60 : TSl Try.prog 60 9 1 16 := by
  obtain ⟨i, h1, h2, h3, h4⟩ := ts_parts (show (Try.prog.info? 9).map (fun i => (i.zero, i.size, i.bytes)) = some (some (.string ByteArray.empty), 1, 16) from by kernel_rfl)
  exact ⟨Try.underlying60, i, _, h1, h2, h3, h4, rfl⟩

theorem fa_68_0 : ∀ b o w, (Instr.fieldAt 68 (.pointer (some ⟨b, o, none⟩)) 0).run Try.prog w = .ok (.pointer (some ⟨b, o + 0, none⟩)) w := by
  obtain ⟨i, z, h1, _, h3, _⟩ := tv_45.info
  exact fun b o w => fieldAt_of (f := 0) Try.underlying68 rfl h1 (by rw [h3]; decide) b o w

theorem fa_68_1 : ∀ b o w, (Instr.fieldAt 68 (.pointer (some ⟨b, o, none⟩)) 1).run Try.prog w = .ok (.pointer (some ⟨b, o + 1, none⟩)) w := by
  obtain ⟨i, z, h1, _, h3, _⟩ := tv_45.info
  exact fun b o w => fieldAt_of (f := 1) Try.underlying68 rfl h1 (by rw [h3]; decide) b o w

theorem fa_68_2 : ∀ b o w, (Instr.fieldAt 68 (.pointer (some ⟨b, o, none⟩)) 2).run Try.prog w = .ok (.pointer (some ⟨b, o + 2, none⟩)) w := by
  obtain ⟨i, z, h1, _, h3, _⟩ := tv_4.info
  exact fun b o w => fieldAt_of (f := 2) Try.underlying68 rfl h1 (by rw [h3]; decide) b o w

theorem ts_101 : TSl Try.prog 101 5 1 1 := by
  obtain ⟨i, h1, h2, h3, h4⟩ := ts_parts (show (Try.prog.info? 5).map (fun i => (i.zero, i.size, i.bytes)) = some (some (.int .u8 0), 1, 1) from by kernel_rfl)
  exact ⟨Try.underlying101, i, _, h1, h2, h3, h4, rfl⟩

theorem en_12 : ∀ args w, (callFunc 12 args).run Try.prog w = .ok (.enter 12 args) w := enters_of Try.func12 (by kernel_rfl) rfl

theorem en_13 : ∀ args w, (callFunc 13 args).run Try.prog w = .ok (.enter 13 args) w := enters_of Try.func13 (by kernel_rfl) rfl

theorem en_14 : ∀ args w, (callFunc 14 args).run Try.prog w = .ok (.enter 14 args) w := enters_of Try.func14 (by kernel_rfl) rfl

theorem en_15 : ∀ args w, (callFunc 15 args).run Try.prog w = .ok (.enter 15 args) w := enters_of Try.func15 (by kernel_rfl) rfl

theorem en_16 : ∀ args w, (callFunc 16 args).run Try.prog w = .ok (.enter 16 args) w := enters_of Try.func16 (by kernel_rfl) rfl

theorem en_38 : ∀ args w, (callFunc 38 args).run Try.prog w = .ok (.enter 38 args) w := enters_of Try.func38 (by kernel_rfl) rfl

theorem en_39 : ∀ args w, (callFunc 39 args).run Try.prog w = .ok (.enter 39 args) w := enters_of Try.func39 (by kernel_rfl) rfl

theorem en_42 : ∀ args w, (callFunc 42 args).run Try.prog w = .ok (.enter 42 args) w := enters_of Try.func42 (by kernel_rfl) rfl

theorem en_43 : ∀ args w, (callFunc 43 args).run Try.prog w = .ok (.enter 43 args) w := enters_of Try.func43 (by kernel_rfl) rfl

theorem en_45 : ∀ args w, (callFunc 45 args).run Try.prog w = .ok (.enter 45 args) w := enters_of Try.func45 (by kernel_rfl) rfl

theorem en_68 : ∀ args w, (callFunc 68 args).run Try.prog w = .ok (.enter 68 args) w := enters_of Try.func68 (by kernel_rfl) rfl

theorem en_74 : ∀ args w, (callFunc 74 args).run Try.prog w = .ok (.enter 74 args) w := enters_of Try.func74 (by kernel_rfl) rfl

theorem en_77 : ∀ args w, (callFunc 77 args).run Try.prog w = .ok (.enter 77 args) w := enters_of Try.func77 (by kernel_rfl) rfl

theorem en_98 : ∀ args w, (callFunc 98 args).run Try.prog w = .ok (.enter 98 args) w := enters_of Try.func98 (by kernel_rfl) rfl

theorem en_108 : ∀ args w, (callFunc 108 args).run Try.prog w = .ok (.enter 108 args) w := enters_of Try.func108 (by kernel_rfl) rfl

theorem hmix : Try.prog.follows .mixedOrders = true := by kernel_rfl

def outB (lo hi n : Int) : Bool := !withinB n lo hi

def allW (xs : List Int) (lo hi : Int) : Bool := !xs.any (outB lo hi)

def isWord (xs : List Int) : Bool := decide (xs.length ≤ 400) && allW xs 0 9

theorem impl_allWithin (A : Option Addr) (c : Nat) (xs : List Int) (lo hi : Int) (w : World) (h : Sl eInt w (Old w) A c xs) :
    Calls Try.prog 112 #[.slice A xs.length c, .int .i64 lo, .int .i64 hi] w fun e w' => e = .returned (.bool (allW xs lo hi)) ∧ w = w' := by
  have hlen := h.len
  have H := Lib.hid h; clear h
  unfold allW
  go_enter Try.func112, Try.ntmps112
  go_wp2
  go_loop [8, 11] (fun _ i => ∃ k : Nat, k ≤ xs.length ∧ i = .int .i64 k ∧ Hid ((xs.take k).any (outB lo hi) = false)) (fun _ i => xs.length - (intOf i).toNat)
  case atStart => exact ⟨0, Nat.zero_le _, rfl, rfl⟩
  case round =>
    obtain ⟨k, hk, rfl, HN⟩ := hrel
    by_cases hlt : k < xs.length
    · have hltz : (k : Int) < (xs.length : Int) := by omega
      obtain ⟨b, off, es, rfl, hb, ⟨rfl, _⟩, hc⟩ := H.out.at1 rfl hlt
      have d0 : w.cell? ⟨b, off + k, none⟩ = some (.int .i64 xs[k]) := hc _ rfl
      clear hc
      have HT : Hid (outB lo hi xs[k] = true → xs.any (outB lo hi) = true) := fun e => any_hit hlt e
      have HS : Hid (outB lo hi xs[k] = false → (xs.take (k + 1)).any (outB lo hi) = false) := fun e => any_step hlt HN.out e
      generalize xs[k] = y at d0 HT HS
      cases q1 : withinB y lo hi
      · go_wp2_with (go_at_call 70; refine (impl_within _ _ _ _).mono ?_; rintro e w' ⟨rfl, rfl⟩; rw [q1])
        go_ret
        exact ⟨by rw [HT.out (by unfold outB; rw [q1]; rfl)]; rfl, rfl⟩
      · go_wp2_with (go_at_call 70; refine (impl_within _ _ _ _).mono ?_; rintro e w' ⟨rfl, rfl⟩; rw [q1])
        go_round
        case rel => exact ⟨k + 1, by omega, by go_num, HS.out (by unfold outB; rw [q1]; rfl)⟩
        case measure => simp [intOf]; omega
    · have hltz : ¬ (k : Int) < (xs.length : Int) := by omega
      obtain rfl : k = xs.length := by omega
      go_wp2
      go_ret
      have hn := HN.out
      rw [List.take_length] at hn
      exact ⟨ret_bool (by rw [hn]; rfl), rfl⟩

theorem impl_isLetters (A : Option Addr) (c : Nat) (xs : List Int) (w : World) (h : Sl eInt w (Old w) A c xs) :
    Calls Try.prog 104 #[.slice A xs.length c] w fun e w' => e = .returned (.bool (allW xs 0 9)) ∧ w = w' := by
  have H := Lib.hid h; clear h
  go_enter Try.func104, Try.ntmps104
  go_wp2_with (go_at_call 112; refine (impl_allWithin _ _ _ _ _ _ H.out).mono ?_; rintro e w' ⟨rfl, rfl⟩)
  go_ret
  exact ⟨rfl, rfl⟩

theorem impl_IsWord (A : Option Addr) (c : Nat) (xs : List Int) (w : World) (h : Sl eInt w (Old w) A c xs) :
    Calls Try.prog 85 #[.slice A xs.length c] w fun e w' => e = .returned (.bool (isWord xs)) ∧ w = w' := by
  have H := Lib.hid h; clear h
  by_cases h1 : xs.length ≤ 400
  · have h1' : decide ((xs.length : Int) ≤ 400) = true := by simp; omega
    rw [show isWord xs = allW xs 0 9 from by unfold isWord; simp [h1]]
    go_enter Try.func85, Try.ntmps85
    go_wp2_with (go_at_call 104; refine (impl_isLetters _ _ _ _ H.out).mono ?_; rintro e w' ⟨rfl, rfl⟩)
    go_ret
    exact ⟨rfl, rfl⟩
  · have h1' : decide ((xs.length : Int) ≤ 400) = false := by simp; omega
    rw [show isWord xs = false from by unfold isWord; simp [h1]]
    go_enter Try.func85, Try.ntmps85
    go_wp2_with fail
    go_ret
    exact ⟨rfl, rfl⟩

theorem enters_areWords1 : ∀ args w, (callFunc 84 args).run Try.prog w = .ok (.enter 84 args) w := enters_of Try.func84 (by kernel_rfl) rfl

def notWord (xs : List Int) : Bool := !isWord xs

theorem impl_areWords1 (es : List Value) (xs : List Int) (w : World) (h : (eSl eInt).R w (Old w) es xs) :
    Calls Try.prog 84 #[es[0]!] w fun e w' => e = .returned (.bool (notWord xs)) ∧ Below w.heap.size w w' := by
  obtain ⟨A, c, rfl, h⟩ := h
  have H := Lib.hid h; clear h
  show Calls Try.prog 84 #[.slice A xs.length c] w _
  go_enter Try.func84, Try.ntmps84
  go_wp2_with (go_at_call 85; refine (impl_IsWord _ _ _ _ H.out).mono ?_; rintro e w' ⟨rfl, rfl⟩)
  go_ret
  exact ⟨rfl, Below.refl _ _⟩

theorem impl_areWords (A : Option Addr) (c : Nat) (xs : List (List Int)) (w : World) (h : Sl (eSl eInt) w (Old w) A c xs) :
    Calls Try.prog 51 #[.slice A xs.length c] w fun e w' => e = .returned (.bool (!xs.any notWord)) ∧ Below w.heap.size w w' := by
  have hI := Lib.hid (ContainsFunc_Int64S notWord 84 #[] A c xs w h enters_areWords1 (fun W x es _ hb hR => impl_areWords1 es x W hR)); clear h
  go_enter Try.func51, Try.ntmps51
  go_wp2_with (go_at_call 83; refine hI.out.mono ?_; rintro e w' ⟨rfl, hb⟩)
  go_ret
  exact ⟨rfl, hb⟩

theorem sl_two {α : Type} {E : Enc α} {w : World} {S : Nat → Prop} {g : Nat} {t : TypeId} {A0 A1 : Option Addr} {c0 c1 : Nat} {x0 x1 : List α} (hB : Blk w g t #[.slice A0 x0.length c0, .slice A1 x1.length c1]) (hg : S g) (h0 : Sl E w S A0 c0 x0) (h1 : Sl E w S A1 c1 x1) :
    Sl (eSl E) w S (some ⟨g, 0, none⟩) 2 [x0, x1] :=
  ⟨Nat.le_refl _, by unfold maxLen; omega, fun _ => ⟨g, 0, rfl, hg, fun i x hx => by
    rcases i with _ | _ | i
    · simp at hx; subst hx
      refine ⟨_, ⟨A0, c0, rfl, h0⟩, fun j v hv => ?_⟩
      rcases j with _ | j
      · simp at hv; subst hv; exact hB.cell 0
      · simp at hv
    · simp at hx; subst hx
      refine ⟨_, ⟨A1, c1, rfl, h1⟩, fun j v hv => ?_⟩
      rcases j with _ | j
      · simp at hv; subst hv; exact hB.cell 1
      · simp at hv
    · simp at hx⟩⟩

theorem any_two (a b : List Int) : (!([a, b].any notWord)) = (isWord a && isWord b) := by
  simp [notWord]

theorem spec_l03Is (A : Option Addr) (c : Nat) (xs : List Int) (w : World) (h : Sl eInt w (Old w) A c xs) :
    Calls Try.prog 67 #[.slice A xs.length c] w fun e w' => e = .returned (.bool (isWord xs)) ∧ w = w' := by
  have hlen := h.len
  have H := Lib.hid h; clear h
  have HV : Hid (isWord xs = (decide (xs.length ≤ 400) && !xs.any (outB 0 9))) := rfl
  go_enter Try.func67, Try.ntmps67
  go_wp2
  go_loop [3] (fun i => ∃ k : Nat, k ≤ xs.length ∧ i = .int .i64 k ∧ Hid ((xs.take k).any (outB 0 9) = false)) (fun i => xs.length - (intOf i).toNat)
  case atStart => exact ⟨0, Nat.zero_le _, rfl, rfl⟩
  case round =>
    obtain ⟨k, hk, rfl, HN⟩ := hrel
    by_cases hlt : k < xs.length
    · have hltz : (k : Int) < (xs.length : Int) := by omega
      obtain ⟨b, off, es, rfl, hb, ⟨rfl, _⟩, hc⟩ := H.out.at1 rfl hlt
      have d0 : w.cell? ⟨b, off + k, none⟩ = some (.int .i64 xs[k]) := hc _ rfl
      clear hc
      have HT : Hid (outB 0 9 xs[k] = true → xs.any (outB 0 9) = true) := fun e => any_hit hlt e
      have HS : Hid (outB 0 9 xs[k] = false → (xs.take (k + 1)).any (outB 0 9) = false) := fun e => any_step hlt HN.out e
      generalize xs[k] = y at d0 HT HS
      cases q1 : withinB y 0 9
      · go_wp2_with (go_at_call 87; refine (spec_l00In _ _ _ _).mono ?_; rintro e w' ⟨rfl, rfl⟩; rw [q1])
        go_ret
        exact ⟨ret_bool (by rw [HV.out, HT.out (by unfold outB; rw [q1]; rfl)]; simp), rfl⟩
      · go_wp2_with (go_at_call 87; refine (spec_l00In _ _ _ _).mono ?_; rintro e w' ⟨rfl, rfl⟩; rw [q1])
        go_round
        case rel => exact ⟨k + 1, by omega, by go_num, HS.out (by unfold outB; rw [q1]; rfl)⟩
        case measure => simp [intOf]; omega
    · have hltz : ¬ (k : Int) < (xs.length : Int) := by omega
      obtain rfl : k = xs.length := by omega
      go_wp2
      go_ret
      have hn := HN.out
      rw [List.take_length] at hn
      exact ⟨ret_bool (by rw [HV.out, hn]; simp; omega), rfl⟩

def markovBad (x : tMarkovRule) : Bool := !(isWord x.1 && isWord x.2.1)

def validMarkov (xs : List tMarkovRule) : Bool := withinB xs.length 1 60 && !xs.any markovBad

theorem enters_ValidMarkov1 : ∀ args w, (callFunc 80 args).run Try.prog w = .ok (.enter 80 args) w := enters_of Try.func80 (by kernel_rfl) rfl

set_option maxHeartbeats 400000 in
theorem impl_ValidMarkov1 (es : List Value) (x : tMarkovRule) (w : World) (h : eMarkovRule.R w (Old w) es x) :
    Calls Try.prog 80 #[.agg es.toArray] w fun e w' => e = .returned (.bool (markovBad x)) ∧ Below w.heap.size w w' := by
  obtain ⟨A0, c0, A1, c1, rfl, g0, g1⟩ := shape_MarkovRule h
  clear h
  have hlen := g0.len
  have hB1 : Below w.heap.size w ((w.alloc (.cells #[.slice A0 x.1.length c0, .slice A1 x.2.1.length c1, .bool x.2.2] 68)).alloc (.cells #[.slice A0 x.1.length c0, .slice A1 x.2.1.length c1] 45)) := by go_grown
  have HW := Lib.hid (impl_areWords _ 2 [x.1, x.2.1] _ (sl_two (Blk.new1 w (.cells #[.slice A0 x.1.length c0, .slice A1 x.2.1.length c1, .bool x.2.2] 68) 45 #[.slice A0 x.1.length c0, .slice A1 x.2.1.length c1]) (by show _ < _; simp) (g0.on hB1) (g1.on hB1)))
  have HB1 := Lib.hid hB1; clear hB1 g0 g1
  go_enter Try.func80, Try.ntmps80
  go_wp2_with (go_at_call 51; refine HW.out.mono ?_; rintro e w1 ⟨rfl, hb⟩; rw [any_two])
  go_ret
  exact ⟨ret_bool (by unfold markovBad; simp), below_trans HB1.out hb⟩

theorem impl_ValidMarkov (A : Option Addr) (c : Nat) (xs : List tMarkovRule) (w : World) (h : Sl eMarkovRule w (Old w) A c xs) :
    Calls Try.prog 45 #[.slice A xs.length c] w fun e w' => e = .returned (.bool (validMarkov xs)) ∧ Below w.heap.size w w' := by
  unfold validMarkov
  have hI := Lib.hid (ContainsFunc_MarkovRule markovBad 80 #[] A c xs w h enters_ValidMarkov1 (fun W x es _ hb hR => impl_ValidMarkov1 es x W hR)); clear h
  cases h1 : withinB xs.length 1 60
  · go_enter Try.func45, Try.ntmps45
    go_wp2_with (first | (go_at_call 78; refine (impl_size_MarkovRule _ _ _ _).mono ?_; rintro e w' ⟨rfl, rfl⟩) | (go_at_call 70; refine (impl_within _ _ _ _).mono ?_; rintro e w' ⟨rfl, rfl⟩; rw [h1]))
    go_ret
    exact ⟨by simp, Below.refl _ _⟩
  · go_enter Try.func45, Try.ntmps45
    go_wp2_with (first | (go_at_call 78; refine (impl_size_MarkovRule _ _ _ _).mono ?_; rintro e w' ⟨rfl, rfl⟩) | (go_at_call 70; refine (impl_within _ _ _ _).mono ?_; rintro e w' ⟨rfl, rfl⟩; rw [h1]) | (go_at_call 79; refine hI.out.mono ?_; rintro e w' ⟨rfl, hb⟩))
    go_ret
    exact ⟨by simp, hb⟩

set_option maxHeartbeats 1000000 in
theorem spec_l10Markov (A : Option Addr) (c : Nat) (xs : List tMarkovRule) (w : World) (h : Sl eMarkovRule w (Old w) A c xs) :
    Calls Try.prog 42 #[.slice A xs.length c] w fun e w' => e = .returned (.bool (validMarkov xs)) ∧ w = w' := by
  have hlen := h.len
  have H := Lib.hid h; clear h
  by_cases h1 : xs.length < 1
  · rw [show validMarkov xs = false from by unfold validMarkov withinB; simp; omega]
    have h1' : (xs.length : Int) < 1 := by omega
    go_enter Try.func42, Try.ntmps42
    go_wp2
    go_ret
    exact ⟨rfl, rfl⟩
  by_cases h2 : xs.length > 60
  · rw [show validMarkov xs = false from by unfold validMarkov withinB; simp; omega]
    have h1' : decide ((xs.length : Int) < 1) = false := by simp; omega
    have h2' : (60 : Int) < (xs.length : Int)  := by omega
    go_enter Try.func42, Try.ntmps42
    go_wp2
    go_ret
    exact ⟨rfl, rfl⟩
  rw [show validMarkov xs = !xs.any markovBad from by unfold validMarkov; rw [withinB_true.2 (by omega)]; rfl]
  have h1' : decide ((xs.length : Int) < 1) = false := by simp; omega
  have h2' : decide ((60 : Int) < (xs.length : Int)) = false := by simp; omega
  go_enter Try.func42, Try.ntmps42
  go_wp2
  go_loop [3] (fun i => ∃ k : Nat, k ≤ xs.length ∧ i = .int .i64 k ∧ Hid ((xs.take k).any markovBad = false)) (fun i => xs.length - (intOf i).toNat)
  case atStart => exact ⟨0, Nat.zero_le _, rfl, rfl⟩
  case round =>
    obtain ⟨k, hk, rfl, HN⟩ := hrel
    by_cases hlt : k < xs.length
    · have hltz : (k : Int) < (xs.length : Int) := by omega
      obtain ⟨b, off, es, rfl, hb, hR, hc⟩ := H.out.at hlt
      obtain ⟨A0, c0, A1, c1, rfl, g0, g1⟩ := shape_MarkovRule hR
      have d0 : w.cell? ⟨b, off + k * 3, none⟩ = some (.slice A0 xs[k].1.length c0) := hc 0 _ rfl
      have d1 : w.cell? ⟨b, off + k * 3 + 1, none⟩ = some (.slice A1 xs[k].2.1.length c1) := hc 1 _ rfl
      clear hc hR
      have hl0 := g0.len
      have HG0 := Lib.hid (spec_l03Is _ _ _ w g0); clear g0
      have HG1 := Lib.hid (spec_l03Is _ _ _ w g1); clear g1
      have HT : Hid (markovBad xs[k] = true → xs.any markovBad = true) := fun e => any_hit hlt e
      have HS : Hid (markovBad xs[k] = false → (xs.take (k + 1)).any markovBad = false) := fun e => any_step hlt HN.out e
      generalize xs[k] = y at d0 d1 HT HS HG0 HG1 hl0
      cases q0 : isWord y.1
      · have HF := Lib.hid (HT.out (by unfold markovBad; rw [q0]; rfl))
        go_wp2_with fail
        refine HG0.out.mono ?_
        rintro e w' ⟨rfl, rfl⟩
        rw [q0]
        go_wp2
        go_ret
        exact ⟨by rw [HF.out]; rfl, rfl⟩
      cases q1 : isWord y.2.1
      · have HF := Lib.hid (HT.out (by unfold markovBad; rw [q0, q1]; rfl))
        go_wp2_with fail
        refine HG0.out.mono ?_
        rintro e w' ⟨rfl, rfl⟩
        rw [q0]
        go_wp2_with fail
        refine HG1.out.mono ?_
        rintro e w' ⟨rfl, rfl⟩
        rw [q1]
        go_wp2
        go_ret
        exact ⟨by rw [HF.out]; rfl, rfl⟩
      · have HF := Lib.hid (HS.out (by unfold markovBad; rw [q0, q1]; rfl))
        go_wp2_with fail
        refine HG0.out.mono ?_
        rintro e w' ⟨rfl, rfl⟩
        rw [q0]
        go_wp2_with fail
        refine HG1.out.mono ?_
        rintro e w' ⟨rfl, rfl⟩
        rw [q1]
        go_wp2
        go_round
        case rel => exact ⟨k + 1, by omega, by go_num, HF.out⟩
        case measure => simp [intOf]; omega
    · have hltz : ¬ (k : Int) < (xs.length : Int) := by omega
      obtain rfl : k = xs.length := by omega
      go_wp2
      go_ret
      have hn := HN.out
      rw [List.take_length] at hn
      exact ⟨ret_bool (by rw [hn]; rfl), rfl⟩

theorem left_ok {l : Int} {n : Nat} (h : ¬ left l n < 0) : left l n = l - (n : Int) ∧ (n : Int) ≤ l := by
  unfold left at *; split at h <;> simp_all <;> omega

theorem allW_mem {xs : List Int} {lo hi : Int} (h : allW xs lo hi = true) : ∀ x ∈ xs, lo ≤ x ∧ x ≤ hi := by
  intro x hx
  unfold allW outB at h
  simp at h
  exact withinB_true.1 (h x hx)

def eBldT : TypeId := 5

abbrev rBld (w : World) (b : Nat) (S : Nat → Prop) (l : List UInt8) : Res := rBldT 103 5 w.heap.size b S l

def shelf_156_ren : Go.Shelf.Ren := ⟨fun | 156 => 39 | 165 => 75 | 166 => 76 | 169 => 77 | 240 => 99 | 241 => 100 | 276 => 109 | 277 => 110 | n => n, fun | 31 => 60 | 9 => 9 | 3 => 3 | 4 => 4 | 0 => 0 | 20 => 20 | 72 => 103 | 76 => 107 | 70 => 100 | 37 => 101 | 75 => 106 | 127 => 126 | 164 => 131 | 5 => 5 | 80 => 109 | n => n, fun | n => n⟩

theorem shelf_156 : Go.Proofs.Lays.n156 Try.prog shelf_156_ren := {
  mixed := by kernel_rfl
  f156 := Try.func39.trans (congrArg some (by kernel_rfl))
  f165 := Try.func75.trans (congrArg some (by kernel_rfl))
  f166 := Try.func76.trans (congrArg some (by kernel_rfl))
  f169 := Try.func77.trans (congrArg some (by kernel_rfl))
  f240 := Try.func99.trans (congrArg some (by kernel_rfl))
  f241 := Try.func100.trans (congrArg some (by kernel_rfl))
  f276 := Try.func109.trans (congrArg some (by kernel_rfl))
  f277 := Try.func110.trans (congrArg some (by kernel_rfl))
  t0 := Try.underlying0
  a0 := Try.isAgg0
  z0 := Try.sizeOf0
  v0 := Try.zeroValue0
  t3 := Try.underlying3
  a3 := Try.isAgg3
  z3 := Try.sizeOf3
  v3 := Try.zeroValue3
  t4 := Try.underlying4
  a4 := Try.isAgg4
  z4 := Try.sizeOf4
  v4 := Try.zeroValue4
  t9 := Try.underlying9
  a9 := Try.isAgg9
  z9 := Try.sizeOf9
  v9 := Try.zeroValue9
  t20 := Try.underlying20
  a20 := Try.isAgg20
  z20 := Try.sizeOf20
  v20 := Try.zeroValue20
  t31 := Try.underlying60
  a31 := Try.isAgg60
  z31 := Try.sizeOf60
  v31 := Try.zeroValue60
  t37 := Try.underlying101
  a37 := Try.isAgg101
  z37 := Try.sizeOf101
  v37 := Try.zeroValue101
  t70 := Try.underlying100
  a70 := Try.isAgg100
  z70 := Try.sizeOf100
  v70 := Try.zeroValue100
  t72 := Try.underlying103
  a72 := Try.isAgg103
  z72 := Try.sizeOf103
  v72 := Try.zeroValue103
  t75 := Try.underlying106
  a75 := Try.isAgg106
  z75 := Try.sizeOf106
  v75 := Try.zeroValue106
  t76 := Try.underlying107
  a76 := Try.isAgg107
  z76 := Try.sizeOf107
  v76 := Try.zeroValue107
  t127 := Try.underlying126
  a127 := Try.isAgg126
  z127 := Try.sizeOf126
  v127 := Try.zeroValue126
  t164 := Try.underlying131
  a164 := Try.isAgg131
  z164 := Try.sizeOf131
  v164 := Try.zeroValue131 }

theorem shelf_X_Builder_Extra_156 : Builder.Extra Try.prog shelf_156_ren where
  sizeBuilder := by kernel_rfl
  liesBuilder := by kernel_rfl
  t5 := Try.underlying5
  a5 := Try.isAgg5
  z5 := Try.sizeOf5
  v5 := Try.zeroValue5
  infoByte := by kernel_rfl
  cellsByte := by kernel_rfl
  sizeByte := by kernel_rfl
  neB5 := by decide

def shelf_168_ren : Go.Shelf.Ren := ⟨fun | 0 => 0 | 1 => 1 | 2 => 2 | 156 => 39 | 165 => 75 | 166 => 76 | 168 => 108 | 169 => 77 | 240 => 99 | 241 => 100 | 242 => 113 | 276 => 109 | 277 => 110 | 278 => 114 | 347 => 115 | 348 => 116 | 349 => 117 | 350 => 118 | 351 => 119 | 352 => 120 | 353 => 121 | 354 => 122 | 355 => 123 | 356 => 124 | 357 => 125 | 358 => 126 | 359 => 127 | 360 => 128 | 361 => 129 | 362 => 130 | 366 => 131 | n => n, fun | 0 => 0 | 1 => 1 | 2 => 2 | 3 => 3 | 4 => 4 | 5 => 5 | 6 => 6 | 7 => 7 | 8 => 8 | 9 => 9 | 10 => 10 | 11 => 11 | 12 => 12 | 13 => 13 | 14 => 14 | 15 => 15 | 16 => 16 | 17 => 17 | 18 => 18 | 19 => 19 | 20 => 20 | 21 => 21 | 31 => 60 | 37 => 101 | 46 => 123 | 51 => 137 | 67 => 62 | 70 => 100 | 71 => 102 | 72 => 103 | 73 => 104 | 74 => 105 | 75 => 106 | 76 => 107 | 77 => 108 | 79 => 130 | 80 => 109 | 81 => 143 | 126 => 136 | 127 => 126 | 131 => 90 | 164 => 131 | 165 => 132 | 166 => 133 | 238 => 138 | 239 => 139 | 240 => 140 | 241 => 141 | 242 => 142 | 243 => 144 | 244 => 145 | 245 => 146 | 246 => 147 | 247 => 148 | 248 => 149 | 249 => 150 | n => n, fun | 1 => 0 | n => n⟩

theorem shelf_168 : Go.Proofs.Lays.n168 Try.prog shelf_168_ren := {
  mixed := by kernel_rfl
  f168 := Try.func108.trans (congrArg some (by kernel_rfl))
  f240 := Try.func99.trans (congrArg some (by kernel_rfl))
  f242 := Try.func113.trans (congrArg some (by kernel_rfl))
  f276 := Try.func109.trans (congrArg some (by kernel_rfl))
  f278 := Try.func114.trans (congrArg some (by kernel_rfl))
  t0 := Try.underlying0
  a0 := Try.isAgg0
  z0 := Try.sizeOf0
  v0 := Try.zeroValue0
  t3 := Try.underlying3
  a3 := Try.isAgg3
  z3 := Try.sizeOf3
  v3 := Try.zeroValue3
  t4 := Try.underlying4
  a4 := Try.isAgg4
  z4 := Try.sizeOf4
  v4 := Try.zeroValue4
  t5 := Try.underlying5
  a5 := Try.isAgg5
  z5 := Try.sizeOf5
  v5 := Try.zeroValue5
  t9 := Try.underlying9
  a9 := Try.isAgg9
  z9 := Try.sizeOf9
  v9 := Try.zeroValue9
  t20 := Try.underlying20
  a20 := Try.isAgg20
  z20 := Try.sizeOf20
  v20 := Try.zeroValue20
  t21 := Try.underlying21
  a21 := Try.isAgg21
  z21 := Try.sizeOf21
  v21 := Try.zeroValue21
  t37 := Try.underlying101
  a37 := Try.isAgg101
  z37 := Try.sizeOf101
  v37 := Try.zeroValue101
  t46 := Try.underlying123
  a46 := Try.isAgg123
  z46 := Try.sizeOf123
  v46 := Try.zeroValue123
  t51 := Try.underlying137
  a51 := Try.isAgg137
  z51 := Try.sizeOf137
  v51 := Try.zeroValue137
  t70 := Try.underlying100
  a70 := Try.isAgg100
  z70 := Try.sizeOf100
  v70 := Try.zeroValue100
  t72 := Try.underlying103
  a72 := Try.isAgg103
  z72 := Try.sizeOf103
  v72 := Try.zeroValue103
  t75 := Try.underlying106
  a75 := Try.isAgg106
  z75 := Try.sizeOf106
  v75 := Try.zeroValue106
  t164 := Try.underlying131
  a164 := Try.isAgg131
  z164 := Try.sizeOf131
  v164 := Try.zeroValue131 }

theorem shelf_X_Builder_Extra_168 : Builder.Extra Try.prog shelf_168_ren where
  sizeBuilder := by kernel_rfl
  liesBuilder := by kernel_rfl
  t5 := Try.underlying5
  a5 := Try.isAgg5
  z5 := Try.sizeOf5
  v5 := Try.zeroValue5
  infoByte := by kernel_rfl
  cellsByte := by kernel_rfl
  sizeByte := by kernel_rfl
  neB5 := by decide

def shelf_169_ren : Go.Shelf.Ren := ⟨fun | 169 => 77 | n => n, fun | 70 => 100 | 9 => 9 | 0 => 0 | 72 => 103 | 37 => 101 | 127 => 126 | 3 => 3 | 5 => 5 | n => n, fun | n => n⟩

theorem shelf_169 : Go.Proofs.Lays.n169 Try.prog shelf_169_ren := {
  mixed := by kernel_rfl
  f169 := Try.func77.trans (congrArg some (by kernel_rfl))
  t0 := Try.underlying0
  a0 := Try.isAgg0
  z0 := Try.sizeOf0
  v0 := Try.zeroValue0
  t3 := Try.underlying3
  a3 := Try.isAgg3
  z3 := Try.sizeOf3
  v3 := Try.zeroValue3
  t9 := Try.underlying9
  a9 := Try.isAgg9
  z9 := Try.sizeOf9
  v9 := Try.zeroValue9
  t37 := Try.underlying101
  a37 := Try.isAgg101
  z37 := Try.sizeOf101
  v37 := Try.zeroValue101
  t70 := Try.underlying100
  a70 := Try.isAgg100
  z70 := Try.sizeOf100
  v70 := Try.zeroValue100
  t72 := Try.underlying103
  a72 := Try.isAgg103
  z72 := Try.sizeOf103
  v72 := Try.zeroValue103
  t127 := Try.underlying126
  a127 := Try.isAgg126
  z127 := Try.sizeOf126
  v127 := Try.zeroValue126 }

theorem shelf_X_Builder_Extra_169 : Builder.Extra Try.prog shelf_169_ren where
  sizeBuilder := by kernel_rfl
  liesBuilder := by kernel_rfl
  t5 := Try.underlying5
  a5 := Try.isAgg5
  z5 := Try.sizeOf5
  v5 := Try.zeroValue5
  infoByte := by kernel_rfl
  cellsByte := by kernel_rfl
  sizeByte := by kernel_rfl
  neB5 := by decide

theorem map_bs (xs : List (List UInt8)) : (xs.map bs).map (fun x : ByteArray => x.data.toList) = xs := by
  rw [List.map_map]
  exact (List.map_congr_left fun x _ => by simp [bs]).trans (List.map_id xs)

theorem Join_Str (A : Option Addr) (c : Nat) (a0 : List (List UInt8)) (a1 : List UInt8) (w : World) (h0 : Sl eTxt w (Old w) A c a0) (s0 : a0.length ≤ 1000000000) (s1 : (Go.Lib.join a0 a1).length ≤ 1000000000) :
    Calls Try.prog 39 #[.slice A a0.length c, .string (bs a1)] w fun e w' => e = .returned (.string (bs (Go.Lib.join a0 a1))) ∧ Below w.heap.size w w' := by
  by_cases hx : a0 = []
  · subst hx
    refine (show Calls Try.prog 39 #[.slice A 0 c, .string (bs a1)] w _ from Any.strings_Join_none shelf_156 shelf_X_Builder_Extra_156 A c (bs a1) w).mono ?_
    rintro e w' ⟨rfl, rfl⟩
    exact ⟨rfl, Below.refl _ _⟩
  · obtain ⟨b, off, rfl, hb, hc⟩ := h0.2.2 hx
    have hl : a0.length = (a0.map bs).length := (List.length_map _).symm
    have hj : Go.Lib.join ((a0.map bs).map (·.data.toList)) (bs a1).data.toList = Go.Lib.join a0 a1 := by rw [map_bs]
    rw [hl]
    refine (show Calls Try.prog 39 #[.slice (some ⟨b, off, none⟩) (a0.map bs).length c, .string (bs a1)] w _ from Any.strings_Join shelf_156 shelf_X_Builder_Extra_156 b off c (a0.map bs) (bs a1) w ?_ hb (by rw [← hl]; omega) (by rw [← hl]; exact h0.1) (by rw [hj]; omega)).mono ?_
    · intro j x hjx
      rw [List.getElem?_map, Option.map_eq_some_iff] at hjx
      obtain ⟨y, hy, rfl⟩ := hjx
      obtain ⟨es, ⟨rfl, _⟩, h2⟩ := hc j y hy
      have := h2 0 _ rfl
      rwa [show off + j * eTxt.size + 0 = off + j from by simp [eTxt]] at this
    · rintro e w' ⟨rfl, h2⟩
      rw [hj]
      exact ⟨rfl, h2⟩

theorem Builder_WriteRune {w0 w : World} {b : Nat} {S : Nat → Prop} {l : List UInt8} (a1 : Int) (h : Held Nob w0 [rBld w0 b S l] w) (hr : 0 ≤ a1 ∧ a1 < 128) (hl : l.length ≤ 1000000000) :
    Calls Try.prog 108 #[.pointer (some ⟨b, 0, none⟩), .int .i32 a1] w fun e w' => (∃ v, e = .returned v) ∧ ∃ S', Held Nob w0 [rBld w0 b S' (l ++ [UInt8.ofNat a1.toNat])] w' := by
  refine (show Calls Try.prog 108 #[.pointer (some ⟨b, 0, none⟩), .int .i32 a1] w _ from Any.Builder_WriteRune_k shelf_168 shelf_X_Builder_Extra_168 w0.heap.size b (Lib.byteCells l) a1 (by omega) (by omega) w h.isBld (by rw [byteCells_len]; omega) h.size).mono ?_
  rintro e w' ⟨rfl, h1, h2, _⟩
  refine ⟨⟨_, rfl⟩, h.bldCall h2 ?_⟩
  rw [byteCells_app, ← runeCells_ascii hr.1 hr.2]
  exact .inr h1

theorem Builder_String {w0 w : World} {b : Nat} {S : Nat → Prop} {l : List UInt8} (h : Held Nob w0 [rBld w0 b S l] w) (hl : l.length ≤ 1000000000) :
    Calls Try.prog 77 #[.pointer (some ⟨b, 0, none⟩)] w fun e w' => e = .returned (.string (bs l)) ∧ ∃ S', Held Nob w0 [rBld w0 b S' l] w' := by
  refine (show Calls Try.prog 77 #[.pointer (some ⟨b, 0, none⟩)] w _ from Any.Builder_String_any_k shelf_169 shelf_X_Builder_Extra_169 w0.heap.size b l w h.isBld h.size).mono ?_
  rintro e w' ⟨rfl, h1, h2, _⟩
  exact ⟨rfl, h.bldCall h2 h1⟩

theorem join_snoc (xs : List (List UInt8)) (y sep : List UInt8) : Go.Lib.join (xs ++ [y]) sep = if xs = [] then y else Go.Lib.join xs sep ++ sep ++ y := by
  cases xs with
  | nil => rw [if_pos rfl, List.nil_append, Go.Lib.join_one]
  | cons x r => rw [if_neg (by simp), List.cons_append, Go.Lib.join_cons, Go.Lib.join_cons]; simp [Go.Lib.joinTail]

theorem join_step {α : Type} (f : α → List UInt8) (l : List α) {k : Nat} (hk : k < l.length) (sep : List UInt8) : Go.Lib.join ((l.take (k + 1)).map f) sep = if k = 0 then f l[k] else Go.Lib.join ((l.take k).map f) sep ++ sep ++ f l[k] := by
  rw [List.take_succ_eq_append_getElem hk, List.map_append, List.map_cons, List.map_nil, join_snoc]
  by_cases h : k = 0
  · subst h; simp
  · rw [if_neg h, if_neg]
    intro h2
    have h3 := congrArg List.length h2
    rw [List.length_map, List.length_take, List.length_nil] at h3
    omega

theorem join_len (B : Nat) (sep : List UInt8) : ∀ xs : List (List UInt8), (∀ x ∈ xs, x.length ≤ B) → (Go.Lib.join xs sep).length ≤ xs.length * (B + sep.length)
  | [], _ => by simp [Go.Lib.join_nil]
  | x :: r, h => by
    have h1 := h x (by simp)
    have h2 : Go.Lib.lens r ≤ r.length * B := by
      have h3 : ∀ y ∈ r, y.length ≤ B := fun y hy => h y (by simp [hy])
      clear h
      induction r with
      | nil => simp [Go.Lib.lens]
      | cons y r ih =>
        have h4 := ih fun z hz => h3 z (by simp [hz])
        have h5 := h3 y (by simp)
        simp only [Go.Lib.lens, List.map_cons, List.sum_cons, List.length_cons, Nat.succ_mul] at h4 ⊢
        omega
    rw [Go.Lib.join_length, List.length_cons, Nat.succ_mul]
    simp only [Go.Lib.lens, List.map_cons, List.sum_cons] at h2 ⊢
    have h6 : sep.length * r.length = r.length * sep.length := Nat.mul_comm _ _
    have h7 : r.length * (B + sep.length) = r.length * B + r.length * sep.length := Nat.mul_add _ _ _
    omega

theorem Sl.i64 {w : World} {S : Nat → Prop} {A : Option Addr} {c : Nat} {xs : List Int} (h : Sl eInt w S A c xs) : ∀ x ∈ xs, -9223372036854775808 ≤ x ∧ x ≤ 9223372036854775807 := by
  intro x hx
  obtain ⟨i, hi⟩ := List.mem_iff_getElem?.1 hx
  obtain ⟨b, off, _, _, hc⟩ := h.2.2 (fun e => by rw [e] at hx; cases hx)
  obtain ⟨es, ⟨_, h1⟩, _⟩ := hc i x hi
  exact h1

def digI (x : Int) : Int := 48 + x

/-- Letters as digits. -/
def digT (l : List Int) : List UInt8 := l.map fun x => UInt8.ofNat (48 + x).toNat

theorem digT_len (l : List Int) : (digT l).length = l.length := by simp [digT]

theorem digT_of (l : List Int) : Go.Lib.bytesOf (l.map digI) = digT l := by simp [Go.Lib.bytesOf, digT, digI]

def wordT (l : List Int) : List UInt8 := if l = [] then [45] else digT l

theorem wordT_len (l : List Int) : (wordT l).length ≤ l.length + 1 := by
  unfold wordT; split
  · simp
  · rw [digT_len]; omega

theorem join_take_len {α : Type} {f : α → List UInt8} {l : List α} {sep : List UInt8} {B : Nat} (h : ∀ x ∈ l, (f x).length + sep.length ≤ B) (k : Nat) : (Go.Lib.join ((l.take k).map f) sep).length ≤ B * l.length := by
  by_cases hn : l = []
  · subst hn; simp [Go.Lib.join_nil]
  · obtain ⟨x0, hx0⟩ := List.exists_mem_of_ne_nil l hn
    have hs := h x0 hx0
    have h1 := join_len (B - sep.length) sep ((l.take k).map f) (by
      intro y hy
      obtain ⟨x, hx, rfl⟩ := List.mem_map.1 hy
      have := h x (List.mem_of_mem_take hx)
      omega)
    rw [List.length_map, List.length_take, show B - sep.length + sep.length = B from by omega] at h1
    have h2 : min k l.length * B ≤ l.length * B := Nat.mul_le_mul_right _ (by omega)
    rw [Nat.mul_comm B]
    omega

theorem join_step0 {α : Type} (f : α → List UInt8) (l : List α) {k : Nat} (hk : k < l.length) (h0 : k = 0) (sep : List UInt8) : Go.Lib.join ((l.take (k + 1)).map f) sep = Go.Lib.join ((l.take k).map f) sep ++ f l[k] := by
  rw [join_step f l hk, if_pos h0]; subst h0; simp [Go.Lib.join_nil]

theorem join_step1 {α : Type} (f : α → List UInt8) (l : List α) {k : Nat} (hk : k < l.length) (h0 : 0 < k) (sep : List UInt8) : Go.Lib.join ((l.take (k + 1)).map f) sep = Go.Lib.join ((l.take k).map f) sep ++ sep ++ f l[k] := by
  rw [join_step f l hk, if_neg (by omega)]

theorem ne_nil {α : Type} {l : List α} (h : ¬ l.length = 0) : ¬ l = [] := fun e => h (by rw [e]; rfl)

theorem eq_nil {α : Type} {l : List α} (h : l.length = 0) : l = [] := List.eq_nil_of_length_eq_zero h

set_option maxRecDepth 100000 in
set_option maxHeartbeats 4000000 in
theorem impl_digitsText (A0 : Option Addr) (c0 : Nat) (a0 : (List Int)) (w : World) (h0 : Sl eInt w (Old w) A0 c0 a0) (s0 : ∀ x ∈ a0, 0 ≤ x ∧ x ≤ 9) (s1 : a0.length ≤ 1000000) :
    Calls Try.prog 98 #[.slice A0 a0.length c0] w fun e w' => e = .returned (.string (bs (digT a0))) ∧ Below w.heap.size w w' := by
  have l0 := h0.len
  have HH1 := Held.start Nob w
  refine enter (n := 18) Try.func98 rfl rfl rfl fun a_2 HE3 => ?_
  refine wp_seq ?_
  refine rg ?_
  refine pl_x HE3 HH1 (wt0 rfl) (x_assign rfl) rfl rfl fun a_4 HE5 => ?_
  refine wpList_nil ?_
  clear a_2 HE3
  refine nrm ?_
  refine wp_seq ?_
  refine rg ?_
  refine pl fun K_6 hK7 => ?_
  refine st_alloc HE5 HH1 tv_103 (wt0 rfl) rfl fun q21 a_8 w' HE9 HH10 => hK7 _ _ ?_
  refine wpList_nil ?_
  clear a_4 HE5 HH1 hK7 K_6
  refine nrm ?_
  refine wp_seq ?_
  refine wp_seq ?_
  refine rg ?_
  refine pl_x HE9 HH10 (wt0 rfl) (x_move rfl) rfl rfl fun a_11 HE12 => ?_
  refine pl_x HE12 HH10 (wt0 rfl) (x_len Try.underlying45 rfl) rfl rfl fun a_13 HE14 => ?_
  refine pl_x HE14 HH10 (wt0 rfl) (x_move rfl) rfl rfl fun a_15 HE16 => ?_
  refine wpList_nil ?_
  clear a_8 HE9 a_11 HE12 a_13 HE14
  refine nrm ?_
  refine wp_block ?_
  obtain ⟨Sr22, HH17⟩ := HH10.toBld (e := eBldT)
  have HH18 : Held Nob w [rBld w q21 Sr22 []] _ := HH17
  refine lp (fun m a w' => ∃ (k : Nat) (S_b3 : Nat → Prop), m = a0.length - k ∧ Env 18 [(8, .int .i64 (k : Int)), (3, .pointer (some ⟨q21, 0, none⟩)), (6, .slice A0 (a0.length) c0), (7, .int .i64 ((a0.length : Int)))] a ∧ Held Nob w [rBld w q21 S_b3 (digT (a0.take k))] w' ∧ (k ≤ a0.length)) (a0.length - (0)) ?_ ?_
  · have E23 : digT (a0.take 0) = [] := by
      first | rfl | simp
    exact ⟨0, Sr22, rfl, HE16.sub ⟨(lkI rfl (by first | rfl | omega | (simp []; done))), rfl, rfl, rfl, trivial⟩, ((HH18.sel [0] (by decide) rfl).to (by first | rfl | (rw [E23]; done) | (rw [E23]; rfl) | (simp only [E23]; done) | (simp only [E23]; rfl))), (by first | omega | assumption | (simp; done) | simp_all)⟩
  · rintro m a_19 w' ⟨k, S_b3, rfl, HE20, HH21, p24_0⟩
    have ol : (digT (a0.take k)).length ≤ 1000000 := by rw [digT_len, List.length_take]; omega
    refine wp_seq ?_
    refine rg ?_
    refine pl_x HE20 HH21 (wt0 rfl) (x_lss rfl rfl) rfl rfl fun a_22 HE23 => ?_
    refine wpList_nil ?_
    clear HH10 HH17 a_15 HE16 HH18 a_19 HE20
    refine nrm ?_
    refine wp_seq ?_
    refine cnd_d HE23 rfl (fun hc25 => ?_) (fun hc25 => ?_)
    · refine wp_skip ?_
      refine nrm ?_
      refine wp_seq ?_
      refine wp_block ?_
      refine wp_seq ?_
      refine rg ?_
      have ke26 : k < a0.length := by omega
      obtain ⟨be26, fe26, ese26, Ae26, Re26, De26⟩ := el_old h0 ke26
      obtain ⟨e26, xe26⟩ : ∃ x_, x_ = a0[k] := ⟨_, rfl⟩
      rw [← xe26] at Re26
      have Qe26 := Re26
      obtain ⟨rfl, ie26⟩ := Re26
      have je26 := ie26; unfold I64 at je26
      have be26 := s0 e26 (by rw [xe26]; exact List.getElem_mem _)
      refine pl_x HE23 HH21 (wt0 rfl) (x_indexAddr ts_45 rfl rfl Ae26 rfl ke26) rfl rfl fun a_24 HE25 => ?_
      refine pl_x HE25 HH21 (wt0 rfl) (x_load1 tv_2 rfl (c_old (De26 0 _ rfl))) rfl rfl fun a_26 HE27 => ?_
      refine pl_x HE27 HH21 (wt0 rfl) (x_assign rfl) rfl rfl fun a_28 HE29 => ?_
      refine wpList_nil ?_
      clear a_22 HE23 a_24 HE25 a_26 HE27
      refine nrm ?_
      refine rg ?_
      refine pl_x HE29 HH21 (wt0 rfl) (x_move rfl) rfl rfl fun a_30 HE31 => ?_
      refine pl_x HE31 HH21 (wt0 rfl) (x_conv32 Try.underlying2 Try.underlying21 rfl (by constructor <;> omega)) rfl rfl fun a_32 HE33 => ?_
      refine pl_x HE33 HH21 (wt0 rfl) (x_add32 rfl rfl (by constructor <;> omega)) rfl rfl fun a_34 HE35 => ?_
      refine pl fun K_36 hK37 => ?_
      refine st_call HE35 (wt0 rfl) rfl rfl rfl en_108 rfl rfl (Builder_WriteRune (48 + e26) HH21 (by constructor <;> omega) (by first | omega | (simp only [List.length_append, List.length_cons, List.length_nil]; omega) | (simp; omega))) fun e w' hr => ?_
      obtain ⟨⟨_, rfl⟩, Sr27_, HH21⟩ := hr
      refine ⟨_, rfl, fun a_38 HE39 => hK37 _ _ ?_⟩
      refine wpList_nil ?_
      clear a_28 HE29 a_30 HE31 a_32 HE33 a_34 HE35 hK37 K_36
      refine blk_n ?_
      refine nrm ?_
      refine rg ?_
      refine pl_x HE39 HH21 (wt0 rfl) (x_add rfl rfl (by exact ⟨by omega, by omega⟩)) rfl rfl fun a_40 HE41 => ?_
      refine pl_x HE41 HH21 (wt0 rfl) (x_move rfl) rfl rfl fun a_42 HE43 => ?_
      refine wpList_nil ?_
      clear a_38 HE39 a_40 HE41
      have E28 : digT (a0.take (k + 1)) = (digT (a0.take k) ++ [UInt8.ofNat (48 + e26).toNat]) := by
        unfold digT; rw [List.take_succ_eq_append_getElem (by omega), List.map_append, ← xe26]; rfl
      exact nrm ⟨a0.length - (k + 1), (by omega), k + 1, Sr27_, rfl, HE43.sub ⟨(lkI rfl (by first | rfl | omega | (simp [p24_0, hc25, xe26]; done))), rfl, rfl, rfl, trivial⟩, ((HH21.sel [0] (by decide) rfl).to (by first | rfl | (rw [E28]; done) | (rw [E28]; rfl) | (simp only [E28]; done) | (simp only [E28]; rfl))), (by first | omega | assumption | (simp; done) | simp_all)⟩
    · refine wp_exit ?_
      refine (thn_exit (thn_exit (blk_hit ?_)))
      refine nrm ?_
      refine wp_seq ?_
      refine rg ?_
      refine pl fun K_44 hK45 => ?_
      refine st_call HE23 (wt0 rfl) rfl rfl rfl en_77 rfl rfl (Builder_String HH21 (by first | omega | (simp only [List.length_append, List.length_cons, List.length_nil]; omega) | (simp; omega))) fun e w' hr => ?_
      obtain ⟨rfl, Sr29_, HH46⟩ := hr
      refine ⟨_, rfl, fun a_47 HE48 => hK45 _ _ ?_⟩
      refine pl_x HE48 HH46 (wt0 rfl) (x_assign rfl) rfl rfl fun a_49 HE50 => ?_
      refine wpList_nil ?_
      clear HH21 a_22 HE23 a_47 HE48 hK45 K_44
      refine nrm ?_
      refine wp_ret ?_
      refine ret1 HE50 rfl (rv_tmp rfl) ?_
      have hF : (digT a0) = digT (a0.take k) := by
        rw [List.take_of_length_le (by omega)]
      exact ⟨by first | (rw [hF] <;> rfl) | rfl | (rw [hF]; simp only [Ending.returned.injEq, Value.slice.injEq, true_and, and_true]; first | omega | (simp; done)) | (rw [hF]; simp; omega), HH46.below⟩

set_option maxRecDepth 100000 in
set_option maxHeartbeats 4000000 in
theorem impl_wordText (A0 : Option Addr) (c0 : Nat) (a0 : (List Int)) (w : World) (h0 : Sl eInt w (Old w) A0 c0 a0) (s0 : ∀ x ∈ a0, 0 ≤ x ∧ x ≤ 9) (s1 : a0.length ≤ 1000000) :
    Calls Try.prog 74 #[.slice A0 a0.length c0] w fun e w' => e = .returned (.string (bs (wordT a0))) ∧ Below w.heap.size w w' := by
  have l0 := h0.len
  have HH1 := Held.start Nob w
  refine enter (n := 8) Try.func74 rfl rfl rfl fun a_2 HE3 => ?_
  refine wp_seq ?_
  refine rg ?_
  refine pl_x HE3 HH1 (wt0 rfl) (x_assign rfl) rfl rfl fun a_4 HE5 => ?_
  refine wpList_nil ?_
  clear a_2 HE3
  refine nrm ?_
  refine wp_seq ?_
  refine wp_seq ?_
  refine rg ?_
  refine pl_x HE5 HH1 (wt0 rfl) (x_move rfl) rfl rfl fun a_6 HE7 => ?_
  refine pl_x HE7 HH1 (wt0 rfl) (x_len Try.underlying45 rfl) rfl rfl fun a_8 HE9 => ?_
  refine pl_x HE9 HH1 (wt0 rfl) (x_eql rfl rfl) rfl rfl fun a_10 HE11 => ?_
  refine wpList_nil ?_
  clear a_4 HE5 a_6 HE7 a_8 HE9
  refine nrm ?_
  refine cnd_e HE11 rfl (fun hc21 => ?_) (fun hc21 => ?_)
  · refine wp_seq ?_
    refine rg ?_
    refine pl_x HE11 HH1 (wt0 rfl) (x_assign rfl) rfl rfl fun a_12 HE13 => ?_
    refine wpList_nil ?_
    clear a_10 HE11
    refine nrm ?_
    refine wp_ret ?_
    refine (thn_ret ?_)
    refine ret1 HE13 rfl (rv_tmp rfl) ?_
    have hF : (wordT a0) = [45] := by
      unfold wordT; first | (rw [if_pos (eq_nil (by omega))]; done) | (rw [if_neg (ne_nil (by omega))])
    exact ⟨by first | (rw [hF] <;> rfl) | rfl | (rw [hF]; simp only [Ending.returned.injEq, Value.slice.injEq, true_and, and_true]; first | omega | (simp; done)) | (rw [hF]; simp; omega), HH1.below⟩
  · refine wp_skip ?_
    refine nrm ?_
    refine wp_seq ?_
    refine rg ?_
    refine pl_x HE11 HH1 (wt0 rfl) (x_move rfl) rfl rfl fun a_14 HE15 => ?_
    refine pl fun K_16 hK17 => ?_
    refine st_call HE15 (wt0 rfl) rfl rfl rfl en_98 rfl rfl (impl_digitsText _ _ a0 _ (HH1.old h0) (by assumption) (by omega)) fun e w' hr => ?_
    obtain ⟨rfl, hbr22⟩ := hr
    have HH18 := HH1.on hbr22
    refine ⟨_, rfl, fun a_19 HE20 => hK17 _ _ ?_⟩
    refine pl_x HE20 HH18 (wt0 rfl) (x_assign rfl) rfl rfl fun a_21 HE22 => ?_
    refine wpList_nil ?_
    clear a_10 HE11 HH1 a_14 HE15 a_19 HE20 hK17 K_16
    refine nrm ?_
    refine wp_ret ?_
    refine ret1 HE22 rfl (rv_tmp rfl) ?_
    have hF : (wordT a0) = (digT a0) := by
      unfold wordT; first | (rw [if_pos (eq_nil (by omega))]; done) | (rw [if_neg (ne_nil (by omega))])
    exact ⟨by first | (rw [hF] <;> rfl) | rfl | (rw [hF]; simp only [Ending.returned.injEq, Value.slice.injEq, true_and, and_true]; first | omega | (simp; done)) | (rw [hF]; simp; omega), HH18.below⟩

set_option maxRecDepth 100000 in
set_option maxHeartbeats 4000000 in
theorem spec_l03Text (A0 : Option Addr) (c0 : Nat) (a0 : (List Int)) (w : World) (h0 : Sl eInt w (Old w) A0 c0 a0) (s0 : ∀ x ∈ a0, 0 ≤ x ∧ x ≤ 9) (s1 : a0.length ≤ 1000000) :
    Calls Try.prog 68 #[.slice A0 a0.length c0] w fun e w' => e = .returned (.string (bs (wordT a0))) ∧ Below w.heap.size w w' := by
  have l0 := h0.len
  have HH1 := Held.start Nob w
  refine enter (n := 26) Try.func68 rfl rfl rfl fun a_2 HE3 => ?_
  refine wp_seq ?_
  refine rg ?_
  refine pl_x HE3 HH1 (wt0 rfl) (x_assign rfl) rfl rfl fun a_4 HE5 => ?_
  refine wpList_nil ?_
  clear a_2 HE3
  refine nrm ?_
  refine wp_seq ?_
  refine wp_seq ?_
  refine rg ?_
  refine pl_x HE5 HH1 (wt0 rfl) (x_move rfl) rfl rfl fun a_6 HE7 => ?_
  refine pl_x HE7 HH1 (wt0 rfl) (x_len Try.underlying45 rfl) rfl rfl fun a_8 HE9 => ?_
  refine pl_x HE9 HH1 (wt0 rfl) (x_eql rfl rfl) rfl rfl fun a_10 HE11 => ?_
  refine wpList_nil ?_
  clear a_4 HE5 a_6 HE7 a_8 HE9
  refine nrm ?_
  refine cnd_e HE11 rfl (fun hc21 => ?_) (fun hc21 => ?_)
  · refine wp_seq ?_
    refine rg ?_
    refine pl_x HE11 HH1 (wt0 rfl) (x_assign rfl) rfl rfl fun a_12 HE13 => ?_
    refine wpList_nil ?_
    clear a_10 HE11
    refine nrm ?_
    refine wp_ret ?_
    refine (thn_ret ?_)
    refine ret1 HE13 rfl (rv_tmp rfl) ?_
    have hF : (wordT a0) = [45] := by
      unfold wordT; first | (rw [if_pos (eq_nil (by omega))]; done) | (rw [if_neg (ne_nil (by omega)), List.take_of_length_le (by omega), digT_of])
    exact ⟨by first | (rw [hF] <;> rfl) | rfl | (rw [hF]; simp only [Ending.returned.injEq, Value.slice.injEq, true_and, and_true]; first | omega | (simp; done)) | (rw [hF]; simp; omega), HH1.below⟩
  · refine wp_skip ?_
    refine nrm ?_
    refine wp_seq ?_
    refine rg ?_
    refine pl fun K_14 hK15 => ?_
    refine st_lit (m := 0) (cs := []) (e := 5) HE11 HH1 (run_lit ts_101 HE11 (vs := []) rfl rfl (by simp [Value.cells]) rfl (by decide)) (wt0 rfl) rfl rfl fun q22 a_16 w' HE17 HH18 => hK15 _ _ ?_
    refine pl_x HE17 HH18 (wt0 rfl) (x_assign rfl) rfl rfl fun a_19 HE20 => ?_
    refine wpList_nil ?_
    clear a_10 HE11 HH1 a_16 HE17 hK15 K_14
    refine nrm ?_
    refine wp_seq ?_
    refine wp_seq ?_
    refine rg ?_
    refine pl_x HE20 HH18 (wt0 rfl) (x_assign rfl) rfl rfl fun a_21 HE22 => ?_
    refine wpList_nil ?_
    clear a_19 HE20
    refine nrm ?_
    refine wp_block ?_
    have HH23 := Held.vecFlat (E := eByte) (xs := []) (css := []) HH18 rfl (Nat.zero_le _) (fun i x hx => by simp at hx)
    refine lp (fun m a w' => ∃ (k : Nat) (A_3 : Option Addr) (c_3 : Nat) (S_3 : Nat → Prop), m = a0.length - k ∧ Env 26 [(3, .slice A_3 (List.length ((a0.take k).map digI)) c_3), (4, .int .i64 (k : Int)), (0, .slice A0 (a0.length) c0)] a ∧ Held Nob w [rVec eByte 5 S_3 A_3 c_3 ((a0.take k).map digI)] w' ∧ (k ≤ a0.length)) (a0.length - (0)) ?_ ?_
    · have E23 : (a0.take 0).map digI = ([] : List Int) := by
        first | rfl | simp
      exact ⟨0, (some ⟨q22, 0, none⟩), (List.length (α := Int) []), (fun b => b = q22), rfl, HE22.sub ⟨(by rw [E23]; rfl), (lkI rfl (by first | rfl | omega | (simp [hc21]; done))), rfl, trivial⟩, ((HH23.sel [0] (by decide) rfl).to (by first | rfl | (rw [E23]; done) | (rw [E23]; rfl) | (simp only [E23]; done) | (simp only [E23]; rfl))), (by first | omega | assumption | (simp; done) | simp_all)⟩
    · rintro m a_24 w' ⟨k, A_3, c_3, S_3, rfl, HE25, HH26, p24_0⟩
      have ol : ((a0.take k).map digI).length ≤ 1000000 := by rw [List.length_map, List.length_take]; omega
      refine wp_seq ?_
      refine wp_seq ?_
      refine rg ?_
      refine pl_x HE25 HH26 (wt0 rfl) (x_move rfl) rfl rfl fun a_27 HE28 => ?_
      refine pl_x HE28 HH26 (wt0 rfl) (x_move rfl) rfl rfl fun a_29 HE30 => ?_
      refine pl_x HE30 HH26 (wt0 rfl) (x_len Try.underlying45 rfl) rfl rfl fun a_31 HE32 => ?_
      refine pl_x HE32 HH26 (wt0 rfl) (x_lss rfl rfl) rfl rfl fun a_33 HE34 => ?_
      refine wpList_nil ?_
      clear HH18 a_21 HE22 HH23 a_24 HE25 a_27 HE28 a_29 HE30 a_31 HE32
      refine nrm ?_
      refine cnd_d HE34 rfl (fun hc25 => ?_) (fun hc25 => ?_)
      · refine wp_skip ?_
        refine nrm ?_
        refine wp_seq ?_
        refine wp_block ?_
        refine rg ?_
        refine pl_x HE34 HH26 (wt0 rfl) (x_move rfl) rfl rfl fun a_35 HE36 => ?_
        refine pl_x HE36 HH26 (wt0 rfl) (x_move rfl) rfl rfl fun a_37 HE38 => ?_
        refine pl_x HE38 HH26 (wt0 rfl) (x_move rfl) rfl rfl fun a_39 HE40 => ?_
        have ke26 : k < a0.length := by omega
        obtain ⟨be26, fe26, ese26, Ae26, Re26, De26⟩ := el_old h0 ke26
        obtain ⟨e26, xe26⟩ : ∃ x_, x_ = a0[k] := ⟨_, rfl⟩
        rw [← xe26] at Re26
        have Qe26 := Re26
        obtain ⟨rfl, ie26⟩ := Re26
        have je26 := ie26; unfold I64 at je26
        have be26 := s0 e26 (by rw [xe26]; exact List.getElem_mem _)
        refine pl_x HE40 HH26 (wt0 rfl) (x_indexAddr ts_45 rfl rfl Ae26 rfl ke26) rfl rfl fun a_41 HE42 => ?_
        refine pl_x HE42 HH26 (wt0 rfl) (x_load1 tv_2 rfl (c_old (De26 0 _ rfl))) rfl rfl fun a_43 HE44 => ?_
        refine pl_x HE44 HH26 (wt0 rfl) (x_add rfl rfl (by exact ⟨by omega, by omega⟩)) rfl rfl fun a_45 HE46 => ?_
        refine pl_x HE46 HH26 (wt0 rfl) (x_conv8 Try.underlying2 Try.underlying5 rfl (by constructor <;> omega)) rfl rfl fun a_47 HE48 => ?_
        refine pl fun K_49 hK50 => ?_
        refine st_lit (m := 1) (cs := [.int .u8 ((48 + e26))]) (e := 5) HE48 HH26 (run_lit ts_101 HE48 (vs := [.int .u8 ((48 + e26))]) rfl rfl (by simp [Value.cells]) rfl (by decide)) (wt0 rfl) rfl rfl fun q27 a_51 w' HE52 HH53 => hK50 _ _ ?_
        refine pl fun K_54 hK55 => ?_
        refine st_app1F (48 + e26) HE52 HH53 ts_101 [1, 0] (by decide) rfl (fun _ => (oY (by constructor <;> omega))) rfl rfl (by simp [Value.oneCell']) (by unfold maxLen; first | omega | (simp; done) | (simp; omega)) (by first | omega | (simp; done) | (simp; omega)) (wt0 rfl) rfl fun A28 c29 S30 a_56 w' HE57 HH58 => hK55 _ _ ?_
        refine pl_x HE57 HH58 (wt0 rfl) (x_assign rfl) rfl rfl fun a_59 HE60 => ?_
        refine wpList_nil ?_
        clear a_33 HE34 a_35 HE36 a_37 HE38 a_39 HE40 a_41 HE42 a_43 HE44 a_45 HE46 a_47 HE48 HH26 K_49 hK50 a_51 HE52 HH53 a_56 HE57 hK55 K_54
        refine blk_n ?_
        refine nrm ?_
        refine rg ?_
        refine pl_x HE60 HH58 (wt0 rfl) (x_move rfl) rfl rfl fun a_61 HE62 => ?_
        refine pl_x HE62 HH58 (wt0 rfl) (x_add rfl rfl (by exact ⟨by omega, by omega⟩)) rfl rfl fun a_63 HE64 => ?_
        refine pl_x HE64 HH58 (wt0 rfl) (x_assign rfl) rfl rfl fun a_65 HE66 => ?_
        refine wpList_nil ?_
        clear a_59 HE60 a_61 HE62 a_63 HE64
        have E31 : (a0.take (k + 1)).map digI = ((a0.take k).map digI ++ [(48 + e26)]) := by
          rw [List.take_succ_eq_append_getElem (by omega), List.map_append, ← xe26]; rfl
        exact nrm ⟨a0.length - (k + 1), (by omega), k + 1, A28, c29, S30, rfl, HE66.sub ⟨(by rw [E31]; rfl), (lkI rfl (by first | rfl | omega | (simp [hc21, p24_0, hc25, xe26]; done))), rfl, trivial⟩, ((HH58.sel [0] (by decide) rfl).to (by first | rfl | (rw [E31]; done) | (rw [E31]; rfl) | (simp only [E31]; done) | (simp only [E31]; rfl))), (by first | omega | assumption | (simp; done) | simp_all)⟩
      · refine wp_exit ?_
        refine (thn_exit (thn_exit (blk_hit ?_)))
        refine nrm ?_
        refine wp_seq ?_
        refine rg ?_
        refine pl_x HE34 HH26 (wt0 rfl) (x_move rfl) rfl rfl fun a_67 HE68 => ?_
        refine pl_x HE68 HH26 (wt0 rfl) (x_bytes (xs := (a0.take k).map digI) Try.underlying101 Try.underlying5 Try.underlying9 rfl (fun _ h_ => (h_.vecSl (i := 0) rfl))) rfl rfl fun a_69 HE70 => ?_
        refine pl_x HE70 HH26 (wt0 rfl) (x_assign rfl) rfl rfl fun a_71 HE72 => ?_
        refine wpList_nil ?_
        clear a_33 HE34 a_67 HE68 a_69 HE70
        refine nrm ?_
        refine wp_ret ?_
        refine ret1 HE72 rfl (rv_tmp rfl) ?_
        have hF : (wordT a0) = (Go.Lib.bytesOf ((a0.take k).map digI)) := by
          unfold wordT; first | (rw [if_pos (eq_nil (by omega))]; done) | (rw [if_neg (ne_nil (by omega)), List.take_of_length_le (by omega), digT_of])
        exact ⟨by first | (rw [hF] <;> rfl) | rfl | (rw [hF]; simp only [Ending.returned.injEq, Value.slice.injEq, true_and, and_true]; first | omega | (simp; done)) | (rw [hF]; simp; omega), HH26.below⟩

def rwT (r : tRewrite) : List UInt8 := wordT r.1 ++ [62] ++ wordT r.2

theorem isWord_digs {xs : List Int} (h : isWord xs = true) : xs.length ≤ 400 ∧ ∀ x ∈ xs, 0 ≤ x ∧ x ≤ 9 := by
  unfold isWord at h
  simp only [Bool.and_eq_true, decide_eq_true_eq] at h
  exact ⟨h.1, allW_mem h.2⟩

theorem rwT_len (a b : List Int) : (rwT (a, b)).length ≤ a.length + b.length + 3 := by
  have h2 := wordT_len a
  have h3 := wordT_len b
  simp only [rwT, List.length_append, List.length_cons, List.length_nil]
  omega

set_option maxRecDepth 100000 in
set_option maxHeartbeats 4000000 in
theorem impl_rewriteText (A0 : Option Addr) (c0 : Nat) (a0 : (List Int)) (A1 : Option Addr) (c1 : Nat) (a1 : (List Int)) (w : World) (h0 : Sl eInt w (Old w) A0 c0 a0) (h1 : Sl eInt w (Old w) A1 c1 a1) (s0 : ∀ x ∈ a0, 0 ≤ x ∧ x ≤ 9) (s1 : a0.length ≤ 1000000) (s2 : ∀ x ∈ a1, 0 ≤ x ∧ x ≤ 9) (s3 : a1.length ≤ 1000000) :
    Calls Try.prog 38 #[.slice A0 a0.length c0, .slice A1 a1.length c1] w fun e w' => e = .returned (.string (bs ((fun a b => rwT (a, b)) a0 a1))) ∧ Below w.heap.size w w' := by
  have l0 := h0.len
  have l1 := h1.len
  have q0 := wordT_len a0
  have q1 := wordT_len a1
  have HH1 := Held.start Nob w
  refine enter (n := 11) Try.func38 rfl rfl rfl fun a_2 HE3 => ?_
  refine wp_seq ?_
  refine rg ?_
  refine pl_x HE3 HH1 (wt0 rfl) (x_assign rfl) rfl rfl fun a_4 HE5 => ?_
  refine wpList_nil ?_
  clear a_2 HE3
  refine nrm ?_
  refine wp_seq ?_
  refine rg ?_
  refine pl_x HE5 HH1 (wt0 rfl) (x_move rfl) rfl rfl fun a_6 HE7 => ?_
  refine pl fun K_8 hK9 => ?_
  refine st_call HE7 (wt0 rfl) rfl rfl rfl en_74 rfl rfl (impl_wordText _ _ a0 _ (HH1.old h0) (by assumption) (by omega)) fun e w' hr => ?_
  have hAr21_0 := wordT_len a0
  obtain ⟨rfl, hbr21⟩ := hr
  have HH10 := HH1.on hbr21
  refine ⟨_, rfl, fun a_11 HE12 => hK9 _ _ ?_⟩
  refine pl_x HE12 HH10 (wt0 rfl) (x_sadd rfl rfl (by first | omega | (simp only [List.length_append, List.length_cons, List.length_nil]; omega) | (simp; omega))) rfl rfl fun a_13 HE14 => ?_
  refine pl_x HE14 HH10 (wt0 rfl) (x_move rfl) rfl rfl fun a_15 HE16 => ?_
  refine pl fun K_17 hK18 => ?_
  refine st_call HE16 (wt0 rfl) rfl rfl rfl en_74 rfl rfl (impl_wordText _ _ a1 _ (HH10.old h1) (by assumption) (by omega)) fun e w' hr => ?_
  have hAr22_0 := wordT_len a1
  obtain ⟨rfl, hbr22⟩ := hr
  have HH19 := HH10.on hbr22
  refine ⟨_, rfl, fun a_20 HE21 => hK18 _ _ ?_⟩
  refine pl_x HE21 HH19 (wt0 rfl) (x_sadd rfl rfl (by first | omega | (simp only [List.length_append, List.length_cons, List.length_nil]; omega) | (simp; omega))) rfl rfl fun a_22 HE23 => ?_
  refine pl_x HE23 HH19 (wt0 rfl) (x_assign rfl) rfl rfl fun a_24 HE25 => ?_
  refine wpList_nil ?_
  clear a_4 HE5 HH1 a_6 HE7 a_11 HE12 a_13 HE14 K_8 hK9 HH10 a_15 HE16 a_20 HE21 a_22 HE23 hK18 K_17
  refine nrm ?_
  refine wp_ret ?_
  refine ret1 HE25 rfl (rv_tmp rfl) ?_
  have hF : ((fun a b => rwT (a, b)) a0 a1) = (((wordT a0) ++ [62]) ++ (wordT a1)) := by
    rfl
  exact ⟨by first | (rw [hF] <;> rfl) | rfl | (rw [hF]; simp only [Ending.returned.injEq, Value.slice.injEq, true_and, and_true]; first | omega | (simp; done)) | (rw [hF]; simp; omega), HH19.below⟩

def mkT (r : tMarkovRule) : List UInt8 := if r.2.2 = true then wordT r.1 ++ [62] ++ wordT r.2.1 ++ [46] else wordT r.1 ++ [62] ++ wordT r.2.1

def markovText (l : List tMarkovRule) : List UInt8 := if validMarkov l = true then Go.Lib.join (l.map mkT) [32] else []

def okMk (r : tMarkovRule) : Prop := (r.1.length ≤ 400 ∧ ∀ x ∈ r.1, 0 ≤ x ∧ x ≤ 9) ∧ r.2.1.length ≤ 400 ∧ ∀ x ∈ r.2.1, 0 ≤ x ∧ x ≤ 9

theorem validMarkov_ok {l : List tMarkovRule} (h : validMarkov l = true) : l.length ≤ 60 ∧ ∀ r ∈ l, okMk r := by
  unfold validMarkov at h
  simp only [Bool.and_eq_true, Bool.not_eq_true', List.any_eq_false] at h
  refine ⟨by have := withinB_true.1 h.1; omega, fun r hr => ?_⟩
  have := h.2 r hr
  unfold markovBad at this
  have h2 : isWord r.1 = true ∧ isWord r.2.1 = true := by
    cases h1 : isWord r.1 <;> cases h3 : isWord r.2.1 <;> simp_all
  exact ⟨isWord_digs h2.1, isWord_digs h2.2⟩

theorem mks_len {l : List tMarkovRule} (h : ∀ x ∈ l, okMk x) (k : Nat) : (Go.Lib.join ((l.take k).map mkT) [32]).length ≤ 1000 * l.length := by
  refine join_take_len (fun x hx => ?_) k
  have h1 := h x hx
  have h2 := wordT_len x.1
  have h3 := wordT_len x.2.1
  have h4 := h1.1.1
  have h5 := h1.2.1
  unfold mkT
  split <;> simp only [List.length_append, List.length_cons, List.length_nil] <;> omega

set_option maxRecDepth 100000 in
set_option maxHeartbeats 4000000 in
theorem impl_MarkovText (A0 : Option Addr) (c0 : Nat) (a0 : (List tMarkovRule)) (w : World) (h0 : Sl eMarkovRule w (Old w) A0 c0 a0) :
    Calls Try.prog 15 #[.slice A0 a0.length c0] w fun e w' => e = .returned (.string (bs (markovText a0))) ∧ Below w.heap.size w w' := by
  have l0 := h0.len
  have HH1 := Held.start Nob w
  refine enter (n := 33) Try.func15 rfl rfl rfl fun a_2 HE3 => ?_
  refine wp_seq ?_
  refine rg ?_
  refine pl_x HE3 HH1 (wt0 rfl) (x_assign rfl) rfl rfl fun a_4 HE5 => ?_
  refine wpList_nil ?_
  clear a_2 HE3
  refine nrm ?_
  refine wp_seq ?_
  refine wp_seq ?_
  refine rg ?_
  refine pl_x HE5 HH1 (wt0 rfl) (x_move rfl) rfl rfl fun a_6 HE7 => ?_
  refine pl fun K_8 hK9 => ?_
  refine st_call HE7 (wt0 rfl) rfl rfl rfl en_45 rfl rfl (impl_ValidMarkov _ _ a0 _ (HH1.old h0)) fun e w' hr => ?_
  obtain ⟨rfl, hbr21⟩ := hr
  have HH10 := HH1.on hbr21
  refine ⟨_, rfl, fun a_11 HE12 => hK9 _ _ ?_⟩
  refine pl_x HE12 HH10 (wt0 rfl) (x_not rfl) rfl rfl fun a_13 HE14 => ?_
  refine wpList_nil ?_
  clear a_4 HE5 HH1 a_6 HE7 a_11 HE12 hK9 K_8
  refine nrm ?_
  refine cnd_nb HE14 rfl (fun hc22 => ?_) (fun hc22 => ?_)
  · refine wp_seq ?_
    refine rg ?_
    refine pl_x HE14 HH10 (wt0 rfl) (x_assign rfl) rfl rfl fun a_15 HE16 => ?_
    refine wpList_nil ?_
    clear a_13 HE14
    refine nrm ?_
    refine wp_ret ?_
    refine (thn_ret ?_)
    refine ret1 HE16 rfl (rv_tmp rfl) ?_
    have hF : (markovText a0) = [] := by
      unfold markovText; first | (rw [if_neg (by simp [hc22])]; done) | (rw [if_pos ‹_›, List.take_of_length_le (by omega)]; done) | (simp [hc22]; done)
    exact ⟨by first | (rw [hF] <;> rfl) | rfl | (rw [hF]; simp only [Ending.returned.injEq, Value.slice.injEq, true_and, and_true]; first | omega | (simp; done)) | (rw [hF]; simp; omega), HH10.below⟩
  · obtain ⟨v0, v1⟩ := validMarkov_ok hc22
    refine wp_skip ?_
    refine nrm ?_
    refine wp_seq ?_
    refine rg ?_
    refine pl fun K_17 hK18 => ?_
    refine st_lit (m := 0) (cs := []) (e := 9) HE14 HH10 (run_lit ts_60 HE14 (vs := []) rfl rfl (by simp [Value.cells]) rfl (by decide)) (wt0 rfl) rfl rfl fun q23 a_19 w' HE20 HH21 => hK18 _ _ ?_
    refine pl_x HE20 HH21 (wt0 rfl) (x_assign rfl) rfl rfl fun a_22 HE23 => ?_
    refine wpList_nil ?_
    clear a_13 HE14 HH10 a_19 HE20 hK18 K_17
    refine nrm ?_
    refine wp_seq ?_
    refine wp_seq ?_
    refine rg ?_
    refine pl_x HE23 HH21 (wt0 rfl) (x_move rfl) rfl rfl fun a_24 HE25 => ?_
    refine pl_x HE25 HH21 (wt0 rfl) (x_len Try.underlying32 rfl) rfl rfl fun a_26 HE27 => ?_
    refine pl_x HE27 HH21 (wt0 rfl) (x_move rfl) rfl rfl fun a_28 HE29 => ?_
    refine wpList_nil ?_
    clear a_22 HE23 a_24 HE25 a_26 HE27
    refine nrm ?_
    refine wp_block ?_
    have HH30 := Held.vecFlat (E := eTxt) (xs := []) (css := []) HH21 rfl (Nat.zero_le _) (fun i x hx => by simp at hx)
    refine lp (fun m a w' => ∃ (k : Nat) (A_3 : Option Addr) (c_3 : Nat) (S_3 : Nat → Prop), m = a0.length - k ∧ Env 33 [(3, .slice A_3 (List.length ((a0.take k).map mkT)) c_3), (13, .int .i64 (k : Int)), (11, .slice A0 (a0.length) c0), (12, .int .i64 ((a0.length : Int)))] a ∧ Held Nob w [rVec eTxt 9 S_3 A_3 c_3 ((a0.take k).map mkT)] w' ∧ (k ≤ a0.length)) (a0.length - (0)) ?_ ?_
    · have E24 : (a0.take 0).map mkT = ([] : List (List UInt8)) := by
        first | rfl | simp
      exact ⟨0, (some ⟨q23, 0, none⟩), (List.length (α := (List UInt8)) []), (fun b => b = q23), rfl, HE29.sub ⟨(by rw [E24]; rfl), (lkI rfl (by first | rfl | omega | (simp [hc22]; done))), rfl, rfl, trivial⟩, ((HH30.sel [0] (by decide) rfl).to (by first | rfl | (rw [E24]; done) | (rw [E24]; rfl) | (simp only [E24]; done) | (simp only [E24]; rfl))), (by first | omega | assumption | (simp; done) | simp_all)⟩
    · rintro m a_31 w' ⟨k, A_3, c_3, S_3, rfl, HE32, HH33, p25_0⟩
      have ol : ((a0.take k).map mkT).length ≤ 60 := by rw [List.length_map, List.length_take]; omega
      have oj := mks_len v1 k
      refine wp_seq ?_
      refine rg ?_
      refine pl_x HE32 HH33 (wt0 rfl) (x_lss rfl rfl) rfl rfl fun a_34 HE35 => ?_
      refine wpList_nil ?_
      clear HH21 a_28 HE29 HH30 a_31 HE32
      refine nrm ?_
      refine wp_seq ?_
      refine cnd_d HE35 rfl (fun hc26 => ?_) (fun hc26 => ?_)
      · refine wp_skip ?_
        refine nrm ?_
        refine wp_seq ?_
        refine wp_block ?_
        refine wp_seq ?_
        refine rg ?_
        have ke27 : k < a0.length := by omega
        obtain ⟨be27, fe27, ese27, Ae27, Re27, De27⟩ := el_old h0 ke27
        obtain ⟨e27, xe27⟩ : ∃ x_, x_ = a0[k] := ⟨_, rfl⟩
        rw [← xe27] at Re27
        have Qe27 := Re27
        obtain ⟨Ae27_0, ce27_0, Ae27_1, ce27_1, rfl, ge27_0, ge27_1⟩ := shape_MarkovRule Re27
        have le27_0 := ge27_0.len
        have le27_1 := ge27_1.len
        have fe27 := v1 e27 (by rw [xe27]; exact List.getElem_mem _)
        obtain ⟨⟨fae27, fbe27⟩, fce27, fde27⟩ := fe27
        refine pl_x HE35 HH33 (wt0 rfl) (x_indexAddr ts_32 rfl rfl Ae27 rfl ke27) rfl rfl fun a_36 HE37 => ?_
        refine pl_x HE37 HH33 (wt0 rfl) (x_loadN (cs := [.slice Ae27_0 (e27.1.length) ce27_0, .slice Ae27_1 (e27.2.1.length) ce27_1, .bool (e27.2.2)]) tv_68 rfl rfl (c_oldN De27)) rfl rfl fun a_38 HE39 => ?_
        refine pl fun K_40 hK41 => ?_
        refine st_alloc HE39 HH33 tv_68 (wt0 rfl) rfl fun q28 a_42 w' HE43 HH44 => hK41 _ _ ?_
        refine pl fun K_45 hK46 => ?_
        refine st_store (vs := [.slice Ae27_0 (e27.1.length) ce27_0, .slice Ae27_1 (e27.2.1.length) ce27_1, .bool (e27.2.2)]) 0 HE43 HH44 tv_68 rfl rfl rfl rfl rfl rfl (by simp [Value.oneCell']) (wt0 rfl) fun w' HH47 => hK46 _ _ ?_
        refine wpList_nil ?_
        clear a_34 HE35 a_36 HE37 a_38 HE39 HH33 K_40 hK41 HH44 hK46 K_45
        refine nrm ?_
        refine wp_seq ?_
        refine rg ?_
        refine pl_x HE43 HH47 (wt0 rfl) (x_fieldAddr fa_68_0 rfl) rfl rfl fun a_48 HE49 => ?_
        refine pl_x HE49 HH47 (wt0 rfl) (x_load1 tv_45 rfl (c_blk 0 rfl rfl)) rfl rfl fun a_50 HE51 => ?_
        refine pl_x HE51 HH47 (wt0 rfl) (x_fieldAddr fa_68_1 rfl) rfl rfl fun a_52 HE53 => ?_
        refine pl_x HE53 HH47 (wt0 rfl) (x_load1 tv_45 rfl (c_blk 0 rfl rfl)) rfl rfl fun a_54 HE55 => ?_
        refine pl fun K_56 hK57 => ?_
        refine st_call HE55 (wt0 rfl) rfl rfl rfl en_38 rfl rfl (impl_rewriteText _ _ e27.1 _ _ e27.2.1 _ (HH47.old ge27_0) (HH47.old ge27_1) (by assumption) (by omega) (by assumption) (by omega)) fun e w' hr => ?_
        have hAr29_0 := rwT_len e27.1 e27.2.1
        obtain ⟨rfl, hbr29⟩ := hr
        have HH58 := HH47.on hbr29
        refine ⟨_, rfl, fun a_59 HE60 => hK57 _ _ ?_⟩
        refine pl_x HE60 HH58 (wt0 rfl) (x_assign rfl) rfl rfl fun a_61 HE62 => ?_
        refine wpList_nil ?_
        clear a_42 HE43 a_48 HE49 a_50 HE51 a_52 HE53 HH47 a_54 HE55 a_59 HE60 hK57 K_56
        refine nrm ?_
        refine wp_seq ?_
        refine wp_seq ?_
        refine rg ?_
        refine pl_x HE62 HH58 (wt0 rfl) (x_fieldAddr fa_68_2 rfl) rfl rfl fun a_63 HE64 => ?_
        refine pl_x HE64 HH58 (wt0 rfl) (x_load1 tv_4 rfl (c_blk 0 rfl rfl)) rfl rfl fun a_65 HE66 => ?_
        refine wpList_nil ?_
        clear a_61 HE62 a_63 HE64
        refine nrm ?_
        refine cnd_b HE66 rfl (fun hc30 => ?_) (fun hc30 => ?_)
        · refine rg ?_
          refine pl_x HE66 HH58 (wt0 rfl) (x_move rfl) rfl rfl fun a_67 HE68 => ?_
          refine pl_x HE68 HH58 (wt0 rfl) (x_sadd rfl rfl (by first | omega | (simp only [List.length_append, List.length_cons, List.length_nil]; omega) | (simp; omega))) rfl rfl fun a_69 HE70 => ?_
          refine pl_x HE70 HH58 (wt0 rfl) (x_assign rfl) rfl rfl fun a_71 HE72 => ?_
          refine wpList_nil ?_
          clear a_65 HE66 a_67 HE68 a_69 HE70
          refine nrm ?_
          refine rg ?_
          refine pl_x HE72 HH58 (wt0 rfl) (x_move rfl) rfl rfl fun a_73 HE74 => ?_
          refine pl_x HE74 HH58 (wt0 rfl) (x_move rfl) rfl rfl fun a_75 HE76 => ?_
          refine pl fun K_77 hK78 => ?_
          refine st_lit (m := 1) (cs := [.string (bs ((rwT (e27.1, e27.2.1)) ++ [46]))]) (e := 9) HE76 HH58 (run_lit ts_60 HE76 (vs := [.string (bs ((rwT (e27.1, e27.2.1)) ++ [46]))]) rfl rfl (by simp [Value.cells]) rfl (by decide)) (wt0 rfl) rfl rfl fun q31 a_79 w' HE80 HH81 => hK78 _ _ ?_
          refine pl fun K_82 hK83 => ?_
          refine st_app1F ((rwT (e27.1, e27.2.1)) ++ [46]) HE80 HH81 ts_60 [2, 0, 1] (by decide) rfl (fun _ => (oS (by first | omega | (simp only [List.length_append, List.length_cons, List.length_nil]; omega) | (simp; omega)))) rfl rfl (by simp [Value.oneCell']) (by unfold maxLen; first | omega | (simp; done) | (simp; omega)) (by first | omega | (simp; done) | (simp; omega)) (wt0 rfl) rfl fun A32 c33 S34 a_84 w' HE85 HH86 => hK83 _ _ ?_
          refine pl_x HE85 HH86 (wt0 rfl) (x_assign rfl) rfl rfl fun a_87 HE88 => ?_
          refine wpList_nil ?_
          clear a_71 HE72 a_73 HE74 a_75 HE76 HH58 K_77 hK78 a_79 HE80 HH81 a_84 HE85 hK83 K_82
          refine blk_n ?_
          refine nrm ?_
          refine rg ?_
          refine pl_x HE88 HH86 (wt0 rfl) (x_add rfl rfl (by exact ⟨by omega, by omega⟩)) rfl rfl fun a_89 HE90 => ?_
          refine pl_x HE90 HH86 (wt0 rfl) (x_move rfl) rfl rfl fun a_91 HE92 => ?_
          refine wpList_nil ?_
          clear a_87 HE88 a_89 HE90
          have E35 : (a0.take (k + 1)).map mkT = ((a0.take k).map mkT ++ [((rwT (e27.1, e27.2.1)) ++ [46])]) := by
            first | (rw [List.take_succ_eq_append_getElem (by omega), List.map_append, ← xe27]; rfl) | (rw [List.take_succ_eq_append_getElem (by omega), List.map_append, ← xe27]; simp [mkT, rwT, hc30])
          exact nrm ⟨a0.length - (k + 1), (by omega), k + 1, A32, c33, S34, rfl, HE92.sub ⟨(by rw [E35]; rfl), (lkI rfl (by first | rfl | omega | (simp [hc22, p25_0, hc26, xe27, hc30]; done))), rfl, rfl, trivial⟩, ((HH86.sel [0] (by decide) rfl).to (by first | rfl | (rw [E35]; done) | (rw [E35]; rfl) | (simp only [E35]; done) | (simp only [E35]; rfl))), (by first | omega | assumption | (simp; done) | simp_all)⟩
        · refine wp_skip ?_
          refine nrm ?_
          refine rg ?_
          refine pl_x HE66 HH58 (wt0 rfl) (x_move rfl) rfl rfl fun a_93 HE94 => ?_
          refine pl_x HE94 HH58 (wt0 rfl) (x_move rfl) rfl rfl fun a_95 HE96 => ?_
          refine pl fun K_97 hK98 => ?_
          refine st_lit (m := 1) (cs := [.string (bs (rwT (e27.1, e27.2.1)))]) (e := 9) HE96 HH58 (run_lit ts_60 HE96 (vs := [.string (bs (rwT (e27.1, e27.2.1)))]) rfl rfl (by simp [Value.cells]) rfl (by decide)) (wt0 rfl) rfl rfl fun q36 a_99 w' HE100 HH101 => hK98 _ _ ?_
          refine pl fun K_102 hK103 => ?_
          refine st_app1F (rwT (e27.1, e27.2.1)) HE100 HH101 ts_60 [2, 0, 1] (by decide) rfl (fun _ => (oS (by first | omega | (simp only [List.length_append, List.length_cons, List.length_nil]; omega) | (simp; omega)))) rfl rfl (by simp [Value.oneCell']) (by unfold maxLen; first | omega | (simp; done) | (simp; omega)) (by first | omega | (simp; done) | (simp; omega)) (wt0 rfl) rfl fun A37 c38 S39 a_104 w' HE105 HH106 => hK103 _ _ ?_
          refine pl_x HE105 HH106 (wt0 rfl) (x_assign rfl) rfl rfl fun a_107 HE108 => ?_
          refine wpList_nil ?_
          clear a_65 HE66 a_93 HE94 a_95 HE96 HH58 K_97 hK98 a_99 HE100 HH101 a_104 HE105 hK103 K_102
          refine blk_n ?_
          refine nrm ?_
          refine rg ?_
          refine pl_x HE108 HH106 (wt0 rfl) (x_add rfl rfl (by exact ⟨by omega, by omega⟩)) rfl rfl fun a_109 HE110 => ?_
          refine pl_x HE110 HH106 (wt0 rfl) (x_move rfl) rfl rfl fun a_111 HE112 => ?_
          refine wpList_nil ?_
          clear a_107 HE108 a_109 HE110
          have E40 : (a0.take (k + 1)).map mkT = ((a0.take k).map mkT ++ [(rwT (e27.1, e27.2.1))]) := by
            first | (rw [List.take_succ_eq_append_getElem (by omega), List.map_append, ← xe27]; rfl) | (rw [List.take_succ_eq_append_getElem (by omega), List.map_append, ← xe27]; simp [mkT, rwT, hc30])
          exact nrm ⟨a0.length - (k + 1), (by omega), k + 1, A37, c38, S39, rfl, HE112.sub ⟨(by rw [E40]; rfl), (lkI rfl (by first | rfl | omega | (simp [hc22, p25_0, hc26, xe27, hc30]; done))), rfl, rfl, trivial⟩, ((HH106.sel [0] (by decide) rfl).to (by first | rfl | (rw [E40]; done) | (rw [E40]; rfl) | (simp only [E40]; done) | (simp only [E40]; rfl))), (by first | omega | assumption | (simp; done) | simp_all)⟩
      · refine wp_exit ?_
        refine (thn_exit (thn_exit (blk_hit ?_)))
        refine nrm ?_
        refine wp_seq ?_
        refine rg ?_
        refine pl_x HE35 HH33 (wt0 rfl) (x_move rfl) rfl rfl fun a_113 HE114 => ?_
        refine pl fun K_115 hK116 => ?_
        refine st_call HE114 (wt0 rfl) rfl rfl rfl en_39 rfl rfl (Join_Str _ _ ((a0.take k).map mkT) ([32]) _ (HH33.vecSl (i := 0) rfl) (by omega) (by omega)) fun e w' hr => ?_
        obtain ⟨rfl, hbr41⟩ := hr
        have HH117 := HH33.on hbr41
        refine ⟨_, rfl, fun a_118 HE119 => hK116 _ _ ?_⟩
        refine pl_x HE119 HH117 (wt0 rfl) (x_assign rfl) rfl rfl fun a_120 HE121 => ?_
        refine wpList_nil ?_
        clear a_34 HE35 HH33 a_113 HE114 a_118 HE119 hK116 K_115
        refine nrm ?_
        refine wp_ret ?_
        refine ret1 HE121 rfl (rv_tmp rfl) ?_
        have hF : (markovText a0) = (Go.Lib.join ((a0.take k).map mkT) ([32])) := by
          unfold markovText; first | (rw [if_neg (by simp [hc22, p25_0, hc26])]; done) | (rw [if_pos ‹_›, List.take_of_length_le (by omega)]; done) | (simp [hc22, p25_0, hc26]; done)
        exact ⟨by first | (rw [hF] <;> rfl) | rfl | (rw [hF]; simp only [Ending.returned.injEq, Value.slice.injEq, true_and, and_true]; first | omega | (simp; done)) | (rw [hF]; simp; omega), HH117.below⟩

set_option maxRecDepth 100000 in
set_option maxHeartbeats 4000000 in
theorem spec_l10MarkovText (A0 : Option Addr) (c0 : Nat) (a0 : (List tMarkovRule)) (w : World) (h0 : Sl eMarkovRule w (Old w) A0 c0 a0) (s0 : a0.length ≤ 60) (s1 : ∀ r ∈ a0, okMk r) :
    Calls Try.prog 43 #[.slice A0 a0.length c0] w fun e w' => e = .returned (.string (bs ((fun l => Go.Lib.join (l.map mkT) [32]) a0))) ∧ Below w.heap.size w w' := by
  have l0 := h0.len
  have HH1 := Held.start Nob w
  refine enter (n := 39) Try.func43 rfl rfl rfl fun a_2 HE3 => ?_
  refine wp_seq ?_
  refine rg ?_
  refine pl_x HE3 HH1 (wt0 rfl) (x_assign rfl) rfl rfl fun a_4 HE5 => ?_
  refine wpList_nil ?_
  clear a_2 HE3
  refine nrm ?_
  refine wp_seq ?_
  refine rg ?_
  refine pl_x HE5 HH1 (wt0 rfl) (x_assign rfl) rfl rfl fun a_6 HE7 => ?_
  refine wpList_nil ?_
  clear a_4 HE5
  refine nrm ?_
  refine wp_seq ?_
  refine wp_seq ?_
  refine rg ?_
  refine pl_x HE7 HH1 (wt0 rfl) (x_assign rfl) rfl rfl fun a_8 HE9 => ?_
  refine wpList_nil ?_
  clear a_6 HE7
  refine nrm ?_
  refine wp_block ?_
  refine lp (fun m a w' => ∃ (k : Nat), m = a0.length - k ∧ Env 39 [(3, .string (bs (Go.Lib.join ((a0.take k).map mkT) [32]))), (4, .int .i64 (k : Int)), (0, .slice A0 (a0.length) c0)] a ∧ Held Nob w [] w' ∧ (k ≤ a0.length)) (a0.length - (0)) ?_ ?_
  · exact ⟨0, rfl, HE9.sub ⟨(lkS rfl (by first | rfl | (simp []; done))), (lkI rfl (by first | rfl | omega | (simp []; done))), rfl, trivial⟩, (HH1.sel [] (by decide) rfl), (by first | omega | assumption | (simp; done) | simp_all)⟩
  · rintro m a_10 w' ⟨k, rfl, HE11, HH12, p21_0⟩
    have oj := mks_len s1 k
    refine wp_seq ?_
    refine wp_seq ?_
    refine rg ?_
    refine pl_x HE11 HH12 (wt0 rfl) (x_move rfl) rfl rfl fun a_13 HE14 => ?_
    refine pl_x HE14 HH12 (wt0 rfl) (x_move rfl) rfl rfl fun a_15 HE16 => ?_
    refine pl_x HE16 HH12 (wt0 rfl) (x_len Try.underlying32 rfl) rfl rfl fun a_17 HE18 => ?_
    refine pl_x HE18 HH12 (wt0 rfl) (x_lss rfl rfl) rfl rfl fun a_19 HE20 => ?_
    refine wpList_nil ?_
    clear a_8 HE9 HH1 a_10 HE11 a_13 HE14 a_15 HE16 a_17 HE18
    refine nrm ?_
    refine cnd_d HE20 rfl (fun hc22 => ?_) (fun hc22 => ?_)
    · refine wp_skip ?_
      refine nrm ?_
      refine wp_seq ?_
      refine wp_block ?_
      refine wp_seq ?_
      refine wp_seq ?_
      refine rg ?_
      refine pl_x HE20 HH12 (wt0 rfl) (x_move rfl) rfl rfl fun a_21 HE22 => ?_
      refine pl_x HE22 HH12 (wt0 rfl) (x_gtr rfl rfl) rfl rfl fun a_23 HE24 => ?_
      refine wpList_nil ?_
      clear a_19 HE20 a_21 HE22
      refine nrm ?_
      refine cnd_d HE24 rfl (fun hc23 => ?_) (fun hc23 => ?_)
      · refine rg ?_
        refine pl_x HE24 HH12 (wt0 rfl) (x_move rfl) rfl rfl fun a_25 HE26 => ?_
        refine pl_x HE26 HH12 (wt0 rfl) (x_sadd rfl rfl (by first | omega | (simp only [List.length_append, List.length_cons, List.length_nil]; omega) | (simp; omega))) rfl rfl fun a_27 HE28 => ?_
        refine pl_x HE28 HH12 (wt0 rfl) (x_assign rfl) rfl rfl fun a_29 HE30 => ?_
        refine wpList_nil ?_
        clear a_23 HE24 a_25 HE26 a_27 HE28
        refine nrm ?_
        refine wp_seq ?_
        refine dr_start (Held Nob w []) 17 #[false, false, false, false, false, false, false, false, false, false, false, false, false, false, false, false, false] hmix rfl rfl HH12 (fun _ h => h.sel [] (by decide) rfl) fun w' HH31 => ?_
        have HS32 := HH31
        refine dr_take (i := 0) (ls' := #[true, false, false, false, false, false, false, false, false, false, false, false, false, false, false, false, false]) HE30 HS32 rfl (by kernel_rfl) (by kernel_rfl) (by kernel_rfl) (fun _ _ _ h => h) rfl (wt0 rfl) (x_move rfl) rfl rfl fun a_33 HE34 => ?_
        refine dr_take (i := 1) (ls' := #[true, true, false, false, false, false, false, false, false, false, false, false, false, false, false, false, false]) HE34 HS32 rfl (by kernel_rfl) (by kernel_rfl) (by kernel_rfl) (fun _ _ _ h => h) rfl (wt0 rfl) (x_move rfl) rfl rfl fun a_35 HE36 => ?_
        refine dr_take (i := 2) (ls' := #[true, true, true, false, false, false, false, false, false, false, false, false, false, false, false, false, false]) HE36 HS32 rfl (by kernel_rfl) (by kernel_rfl) (by kernel_rfl) (fun _ _ _ h => h) rfl (wt0 rfl) (x_move rfl) rfl rfl fun a_37 HE38 => ?_
        have ke24 : k < a0.length := by omega
        obtain ⟨be24, fe24, ese24, Ae24, Re24, De24⟩ := el_old h0 ke24
        obtain ⟨e24, xe24⟩ : ∃ x_, x_ = a0[k] := ⟨_, rfl⟩
        rw [← xe24] at Re24
        have Qe24 := Re24
        obtain ⟨Ae24_0, ce24_0, Ae24_1, ce24_1, rfl, ge24_0, ge24_1⟩ := shape_MarkovRule Re24
        have le24_0 := ge24_0.len
        have le24_1 := ge24_1.len
        have fe24 := s1 e24 (by rw [xe24]; exact List.getElem_mem _)
        obtain ⟨⟨fae24, fbe24⟩, fce24, fde24⟩ := fe24
        refine dr_take (i := 3) (ls' := #[true, true, true, true, false, false, false, false, false, false, false, false, false, false, false, false, false]) HE38 HS32 rfl (by kernel_rfl) (by kernel_rfl) (by kernel_rfl) (fun _ _ _ h => h) rfl (wt0 rfl) (x_indexAddr ts_32 rfl rfl Ae24 rfl ke24) rfl rfl fun a_39 HE40 => ?_
        refine dr_take (i := 4) (ls' := #[true, true, true, true, true, false, false, false, false, false, false, false, false, false, false, false, false]) HE40 HS32 rfl (by kernel_rfl) (by kernel_rfl) (by kernel_rfl) (fun _ _ _ h => h) rfl (wt0 rfl) (x_fieldAddr fa_68_0 rfl) rfl rfl fun a_41 HE42 => ?_
        refine dr_take (i := 5) (ls' := #[true, true, true, true, true, true, false, false, false, false, false, false, false, false, false, false, false]) HE42 HS32 rfl (by kernel_rfl) (by kernel_rfl) (by kernel_rfl) (fun _ _ _ h => h) rfl (wt0 rfl) (x_load1 tv_45 rfl (c_old (De24 0 _ rfl))) rfl rfl fun a_43 HE44 => ?_
        refine dr_take (i := 8) (ls' := #[true, true, true, true, true, true, false, false, true, false, false, false, false, false, false, false, false]) HE44 HS32 rfl (by kernel_rfl) (by kernel_rfl) (by kernel_rfl) (fun _ _ _ h => h) rfl (wt0 rfl) (x_move rfl) rfl rfl fun a_45 HE46 => ?_
        refine dr_take (i := 9) (ls' := #[true, true, true, true, true, true, false, false, true, true, false, false, false, false, false, false, false]) HE46 HS32 rfl (by kernel_rfl) (by kernel_rfl) (by kernel_rfl) (fun _ _ _ h => h) rfl (wt0 rfl) (x_move rfl) rfl rfl fun a_47 HE48 => ?_
        refine dr_take (i := 10) (ls' := #[true, true, true, true, true, true, false, false, true, true, true, false, false, false, false, false, false]) HE48 HS32 rfl (by kernel_rfl) (by kernel_rfl) (by kernel_rfl) (fun _ _ _ h => h) rfl (wt0 rfl) (x_indexAddr ts_32 rfl rfl Ae24 rfl ke24) rfl rfl fun a_49 HE50 => ?_
        refine dr_take (i := 11) (ls' := #[true, true, true, true, true, true, false, false, true, true, true, true, false, false, false, false, false]) HE50 HS32 rfl (by kernel_rfl) (by kernel_rfl) (by kernel_rfl) (fun _ _ _ h => h) rfl (wt0 rfl) (x_fieldAddr fa_68_1 rfl) rfl rfl fun a_51 HE52 => ?_
        refine dr_take (i := 12) (ls' := #[true, true, true, true, true, true, false, false, true, true, true, true, true, false, false, false, false]) HE52 HS32 rfl (by kernel_rfl) (by kernel_rfl) (by kernel_rfl) (fun _ _ _ h => h) rfl (wt0 rfl) (x_load1 tv_45 rfl (c_old (De24 1 _ rfl))) rfl rfl fun a_53 HE54 => ?_
        refine dr_one (i := 6) (ls' := #[true, true, true, true, true, true, true, false, true, true, true, true, true, false, false, false, false]) rfl (by kernel_rfl) rfl fun K_55 hK56 => ?_
        refine st_call HE54 (wt0 rfl) rfl rfl rfl en_68 rfl rfl (spec_l03Text _ _ e24.1 _ (HH31.old ge24_0) (by assumption) (by omega)) fun e w' hr => ?_
        have hAr25_0 := wordT_len e24.1
        obtain ⟨rfl, hbr25⟩ := hr
        have HH57 := HH31.on hbr25
        refine ⟨_, rfl, fun a_58 HE59 => hK56 _ _ (by exact HH57.sel [] (by decide) rfl) ?_⟩
        have HS60 := HH57.sel [] (by decide) rfl
        refine dr_take (i := 7) (ls' := #[true, true, true, true, true, true, true, true, true, true, true, true, true, false, false, false, false]) HE59 HS60 rfl (by kernel_rfl) (by kernel_rfl) (by kernel_rfl) (fun _ _ _ h => h) rfl (wt0 rfl) (x_sadd rfl rfl (by first | omega | (simp only [List.length_append, List.length_cons, List.length_nil]; omega) | (simp; omega))) rfl rfl fun a_61 HE62 => ?_
        refine dr_one (i := 13) (ls' := #[true, true, true, true, true, true, true, true, true, true, true, true, true, true, false, false, false]) rfl (by kernel_rfl) rfl fun K_63 hK64 => ?_
        refine st_call HE62 (wt0 rfl) rfl rfl rfl en_68 rfl rfl (spec_l03Text _ _ e24.2.1 _ (HH57.old ge24_1) (by assumption) (by omega)) fun e w' hr => ?_
        have hAr26_0 := wordT_len e24.2.1
        obtain ⟨rfl, hbr26⟩ := hr
        have HH65 := HH57.on hbr26
        refine ⟨_, rfl, fun a_66 HE67 => hK64 _ _ (by exact HH65.sel [] (by decide) rfl) ?_⟩
        have HS68 := HH65.sel [] (by decide) rfl
        refine dr_take (i := 14) (ls' := #[true, true, true, true, true, true, true, true, true, true, true, true, true, true, true, false, false]) HE67 HS68 rfl (by kernel_rfl) (by kernel_rfl) (by kernel_rfl) (fun _ _ _ h => h) rfl (wt0 rfl) (x_sadd rfl rfl (by first | omega | (simp only [List.length_append, List.length_cons, List.length_nil]; omega) | (simp; omega))) rfl rfl fun a_69 HE70 => ?_
        refine dr_take (i := 15) (ls' := #[true, true, true, true, true, true, true, true, true, true, true, true, true, true, true, true, false]) HE70 HS68 rfl (by kernel_rfl) (by kernel_rfl) (by kernel_rfl) (fun _ _ _ h => h) rfl (wt0 rfl) (x_sadd rfl rfl (by first | omega | (simp only [List.length_append, List.length_cons, List.length_nil]; omega) | (simp; omega))) rfl rfl fun a_71 HE72 => ?_
        refine dr_take (i := 16) (ls' := #[true, true, true, true, true, true, true, true, true, true, true, true, true, true, true, true, true]) HE72 HS68 rfl (by kernel_rfl) (by kernel_rfl) (by kernel_rfl) (fun _ _ _ h => h) rfl (wt0 rfl) (x_assign rfl) rfl rfl fun a_73 HE74 => ?_
        refine dr_done (by kernel_rfl) ?_
        clear HH12 a_29 HE30 a_33 HE34 a_35 HE36 a_37 HE38 a_39 HE40 a_41 HE42 a_43 HE44 a_45 HE46 a_47 HE48 a_49 HE50 a_51 HE52 HH31 a_53 HE54 HS32 a_58 HE59 K_55 hK56 HH57 a_61 HE62 HS60 a_66 HE67 a_69 HE70 a_71 HE72 hK64 K_63
        refine nrm ?_
        refine wp_seq ?_
        refine rg ?_
        refine pl_x HE74 HH65 (wt0 rfl) (x_move rfl) rfl rfl fun a_75 HE76 => ?_
        refine pl_x HE76 HH65 (wt0 rfl) (x_move rfl) rfl rfl fun a_77 HE78 => ?_
        refine pl_x HE78 HH65 (wt0 rfl) (x_indexAddr ts_32 rfl rfl Ae24 rfl ke24) rfl rfl fun a_79 HE80 => ?_
        refine pl_x HE80 HH65 (wt0 rfl) (x_fieldAddr fa_68_2 rfl) rfl rfl fun a_81 HE82 => ?_
        refine pl_x HE82 HH65 (wt0 rfl) (x_load1 tv_4 rfl (c_old (De24 2 _ rfl))) rfl rfl fun a_83 HE84 => ?_
        refine wpList_nil ?_
        clear a_73 HE74 a_75 HE76 a_77 HE78 a_79 HE80 a_81 HE82
        refine nrm ?_
        refine cnd_b HE84 rfl (fun hc27 => ?_) (fun hc27 => ?_)
        · refine rg ?_
          refine pl_x HE84 HH65 (wt0 rfl) (x_move rfl) rfl rfl fun a_85 HE86 => ?_
          refine pl_x HE86 HH65 (wt0 rfl) (x_sadd rfl rfl (by first | omega | (simp only [List.length_append, List.length_cons, List.length_nil]; omega) | (simp; omega))) rfl rfl fun a_87 HE88 => ?_
          refine pl_x HE88 HH65 (wt0 rfl) (x_assign rfl) rfl rfl fun a_89 HE90 => ?_
          refine wpList_nil ?_
          clear a_83 HE84 a_85 HE86 a_87 HE88
          refine blk_n ?_
          refine nrm ?_
          refine rg ?_
          refine pl_x HE90 HH65 (wt0 rfl) (x_move rfl) rfl rfl fun a_91 HE92 => ?_
          refine pl_x HE92 HH65 (wt0 rfl) (x_add rfl rfl (by exact ⟨by omega, by omega⟩)) rfl rfl fun a_93 HE94 => ?_
          refine pl_x HE94 HH65 (wt0 rfl) (x_assign rfl) rfl rfl fun a_95 HE96 => ?_
          refine wpList_nil ?_
          clear a_89 HE90 a_91 HE92 a_93 HE94
          exact nrm ⟨a0.length - (k + 1), (by omega), k + 1, rfl, HE96.sub ⟨(lkS rfl (by first | (rw [join_step0 _ _ (by omega) (by omega), ← xe24]; done) | (rw [join_step1 _ _ (by omega) (by omega), ← xe24]; done) | (rw [join_step0 _ _ (by omega) (by omega), ← xe24]; rfl) | (rw [join_step1 _ _ (by omega) (by omega), ← xe24]; rfl) | (rw [join_step0 _ _ (by omega) (by omega), ← xe24]; simp [mkT, hc27]; done) | (rw [join_step1 _ _ (by omega) (by omega), ← xe24]; simp [mkT, hc27]; done))), (lkI rfl (by first | rfl | omega | (simp [p21_0, hc22, hc23, xe24, hc27]; done))), rfl, trivial⟩, (HH65.sel [] (by decide) rfl), (by first | omega | assumption | (simp; done) | simp_all)⟩
        · refine wp_skip ?_
          refine blk_n ?_
          refine nrm ?_
          refine rg ?_
          refine pl_x HE84 HH65 (wt0 rfl) (x_move rfl) rfl rfl fun a_97 HE98 => ?_
          refine pl_x HE98 HH65 (wt0 rfl) (x_add rfl rfl (by exact ⟨by omega, by omega⟩)) rfl rfl fun a_99 HE100 => ?_
          refine pl_x HE100 HH65 (wt0 rfl) (x_assign rfl) rfl rfl fun a_101 HE102 => ?_
          refine wpList_nil ?_
          clear a_83 HE84 a_97 HE98 a_99 HE100
          exact nrm ⟨a0.length - (k + 1), (by omega), k + 1, rfl, HE102.sub ⟨(lkS rfl (by first | (rw [join_step0 _ _ (by omega) (by omega), ← xe24]; done) | (rw [join_step1 _ _ (by omega) (by omega), ← xe24]; done) | (rw [join_step0 _ _ (by omega) (by omega), ← xe24]; rfl) | (rw [join_step1 _ _ (by omega) (by omega), ← xe24]; rfl) | (rw [join_step0 _ _ (by omega) (by omega), ← xe24]; simp [mkT, hc27]; done) | (rw [join_step1 _ _ (by omega) (by omega), ← xe24]; simp [mkT, hc27]; done))), (lkI rfl (by first | rfl | omega | (simp [p21_0, hc22, hc23, xe24, hc27]; done))), rfl, trivial⟩, (HH65.sel [] (by decide) rfl), (by first | omega | assumption | (simp; done) | simp_all)⟩
      · refine wp_skip ?_
        refine nrm ?_
        refine wp_seq ?_
        refine dr_start (Held Nob w []) 17 #[false, false, false, false, false, false, false, false, false, false, false, false, false, false, false, false, false] hmix rfl rfl HH12 (fun _ h => h.sel [] (by decide) rfl) fun w' HH103 => ?_
        have HS104 := HH103
        refine dr_take (i := 0) (ls' := #[true, false, false, false, false, false, false, false, false, false, false, false, false, false, false, false, false]) HE24 HS104 rfl (by kernel_rfl) (by kernel_rfl) (by kernel_rfl) (fun _ _ _ h => h) rfl (wt0 rfl) (x_move rfl) rfl rfl fun a_105 HE106 => ?_
        refine dr_take (i := 1) (ls' := #[true, true, false, false, false, false, false, false, false, false, false, false, false, false, false, false, false]) HE106 HS104 rfl (by kernel_rfl) (by kernel_rfl) (by kernel_rfl) (fun _ _ _ h => h) rfl (wt0 rfl) (x_move rfl) rfl rfl fun a_107 HE108 => ?_
        refine dr_take (i := 2) (ls' := #[true, true, true, false, false, false, false, false, false, false, false, false, false, false, false, false, false]) HE108 HS104 rfl (by kernel_rfl) (by kernel_rfl) (by kernel_rfl) (fun _ _ _ h => h) rfl (wt0 rfl) (x_move rfl) rfl rfl fun a_109 HE110 => ?_
        have ke28 : k < a0.length := by omega
        obtain ⟨be28, fe28, ese28, Ae28, Re28, De28⟩ := el_old h0 ke28
        obtain ⟨e28, xe28⟩ : ∃ x_, x_ = a0[k] := ⟨_, rfl⟩
        rw [← xe28] at Re28
        have Qe28 := Re28
        obtain ⟨Ae28_0, ce28_0, Ae28_1, ce28_1, rfl, ge28_0, ge28_1⟩ := shape_MarkovRule Re28
        have le28_0 := ge28_0.len
        have le28_1 := ge28_1.len
        have fe28 := s1 e28 (by rw [xe28]; exact List.getElem_mem _)
        obtain ⟨⟨fae28, fbe28⟩, fce28, fde28⟩ := fe28
        refine dr_take (i := 3) (ls' := #[true, true, true, true, false, false, false, false, false, false, false, false, false, false, false, false, false]) HE110 HS104 rfl (by kernel_rfl) (by kernel_rfl) (by kernel_rfl) (fun _ _ _ h => h) rfl (wt0 rfl) (x_indexAddr ts_32 rfl rfl Ae28 rfl ke28) rfl rfl fun a_111 HE112 => ?_
        refine dr_take (i := 4) (ls' := #[true, true, true, true, true, false, false, false, false, false, false, false, false, false, false, false, false]) HE112 HS104 rfl (by kernel_rfl) (by kernel_rfl) (by kernel_rfl) (fun _ _ _ h => h) rfl (wt0 rfl) (x_fieldAddr fa_68_0 rfl) rfl rfl fun a_113 HE114 => ?_
        refine dr_take (i := 5) (ls' := #[true, true, true, true, true, true, false, false, false, false, false, false, false, false, false, false, false]) HE114 HS104 rfl (by kernel_rfl) (by kernel_rfl) (by kernel_rfl) (fun _ _ _ h => h) rfl (wt0 rfl) (x_load1 tv_45 rfl (c_old (De28 0 _ rfl))) rfl rfl fun a_115 HE116 => ?_
        refine dr_take (i := 8) (ls' := #[true, true, true, true, true, true, false, false, true, false, false, false, false, false, false, false, false]) HE116 HS104 rfl (by kernel_rfl) (by kernel_rfl) (by kernel_rfl) (fun _ _ _ h => h) rfl (wt0 rfl) (x_move rfl) rfl rfl fun a_117 HE118 => ?_
        refine dr_take (i := 9) (ls' := #[true, true, true, true, true, true, false, false, true, true, false, false, false, false, false, false, false]) HE118 HS104 rfl (by kernel_rfl) (by kernel_rfl) (by kernel_rfl) (fun _ _ _ h => h) rfl (wt0 rfl) (x_move rfl) rfl rfl fun a_119 HE120 => ?_
        refine dr_take (i := 10) (ls' := #[true, true, true, true, true, true, false, false, true, true, true, false, false, false, false, false, false]) HE120 HS104 rfl (by kernel_rfl) (by kernel_rfl) (by kernel_rfl) (fun _ _ _ h => h) rfl (wt0 rfl) (x_indexAddr ts_32 rfl rfl Ae28 rfl ke28) rfl rfl fun a_121 HE122 => ?_
        refine dr_take (i := 11) (ls' := #[true, true, true, true, true, true, false, false, true, true, true, true, false, false, false, false, false]) HE122 HS104 rfl (by kernel_rfl) (by kernel_rfl) (by kernel_rfl) (fun _ _ _ h => h) rfl (wt0 rfl) (x_fieldAddr fa_68_1 rfl) rfl rfl fun a_123 HE124 => ?_
        refine dr_take (i := 12) (ls' := #[true, true, true, true, true, true, false, false, true, true, true, true, true, false, false, false, false]) HE124 HS104 rfl (by kernel_rfl) (by kernel_rfl) (by kernel_rfl) (fun _ _ _ h => h) rfl (wt0 rfl) (x_load1 tv_45 rfl (c_old (De28 1 _ rfl))) rfl rfl fun a_125 HE126 => ?_
        refine dr_one (i := 6) (ls' := #[true, true, true, true, true, true, true, false, true, true, true, true, true, false, false, false, false]) rfl (by kernel_rfl) rfl fun K_127 hK128 => ?_
        refine st_call HE126 (wt0 rfl) rfl rfl rfl en_68 rfl rfl (spec_l03Text _ _ e28.1 _ (HH103.old ge28_0) (by assumption) (by omega)) fun e w' hr => ?_
        have hAr29_0 := wordT_len e28.1
        obtain ⟨rfl, hbr29⟩ := hr
        have HH129 := HH103.on hbr29
        refine ⟨_, rfl, fun a_130 HE131 => hK128 _ _ (by exact HH129.sel [] (by decide) rfl) ?_⟩
        have HS132 := HH129.sel [] (by decide) rfl
        refine dr_take (i := 7) (ls' := #[true, true, true, true, true, true, true, true, true, true, true, true, true, false, false, false, false]) HE131 HS132 rfl (by kernel_rfl) (by kernel_rfl) (by kernel_rfl) (fun _ _ _ h => h) rfl (wt0 rfl) (x_sadd rfl rfl (by first | omega | (simp only [List.length_append, List.length_cons, List.length_nil]; omega) | (simp; omega))) rfl rfl fun a_133 HE134 => ?_
        refine dr_one (i := 13) (ls' := #[true, true, true, true, true, true, true, true, true, true, true, true, true, true, false, false, false]) rfl (by kernel_rfl) rfl fun K_135 hK136 => ?_
        refine st_call HE134 (wt0 rfl) rfl rfl rfl en_68 rfl rfl (spec_l03Text _ _ e28.2.1 _ (HH129.old ge28_1) (by assumption) (by omega)) fun e w' hr => ?_
        have hAr30_0 := wordT_len e28.2.1
        obtain ⟨rfl, hbr30⟩ := hr
        have HH137 := HH129.on hbr30
        refine ⟨_, rfl, fun a_138 HE139 => hK136 _ _ (by exact HH137.sel [] (by decide) rfl) ?_⟩
        have HS140 := HH137.sel [] (by decide) rfl
        refine dr_take (i := 14) (ls' := #[true, true, true, true, true, true, true, true, true, true, true, true, true, true, true, false, false]) HE139 HS140 rfl (by kernel_rfl) (by kernel_rfl) (by kernel_rfl) (fun _ _ _ h => h) rfl (wt0 rfl) (x_sadd rfl rfl (by first | omega | (simp only [List.length_append, List.length_cons, List.length_nil]; omega) | (simp; omega))) rfl rfl fun a_141 HE142 => ?_
        refine dr_take (i := 15) (ls' := #[true, true, true, true, true, true, true, true, true, true, true, true, true, true, true, true, false]) HE142 HS140 rfl (by kernel_rfl) (by kernel_rfl) (by kernel_rfl) (fun _ _ _ h => h) rfl (wt0 rfl) (x_sadd rfl rfl (by first | omega | (simp only [List.length_append, List.length_cons, List.length_nil]; omega) | (simp; omega))) rfl rfl fun a_143 HE144 => ?_
        refine dr_take (i := 16) (ls' := #[true, true, true, true, true, true, true, true, true, true, true, true, true, true, true, true, true]) HE144 HS140 rfl (by kernel_rfl) (by kernel_rfl) (by kernel_rfl) (fun _ _ _ h => h) rfl (wt0 rfl) (x_assign rfl) rfl rfl fun a_145 HE146 => ?_
        refine dr_done (by kernel_rfl) ?_
        clear HH12 a_23 HE24 a_105 HE106 a_107 HE108 a_109 HE110 a_111 HE112 a_113 HE114 a_115 HE116 a_117 HE118 a_119 HE120 a_121 HE122 a_123 HE124 HH103 a_125 HE126 HS104 a_130 HE131 K_127 hK128 HH129 a_133 HE134 HS132 a_138 HE139 a_141 HE142 a_143 HE144 hK136 K_135
        refine nrm ?_
        refine wp_seq ?_
        refine rg ?_
        refine pl_x HE146 HH137 (wt0 rfl) (x_move rfl) rfl rfl fun a_147 HE148 => ?_
        refine pl_x HE148 HH137 (wt0 rfl) (x_move rfl) rfl rfl fun a_149 HE150 => ?_
        refine pl_x HE150 HH137 (wt0 rfl) (x_indexAddr ts_32 rfl rfl Ae28 rfl ke28) rfl rfl fun a_151 HE152 => ?_
        refine pl_x HE152 HH137 (wt0 rfl) (x_fieldAddr fa_68_2 rfl) rfl rfl fun a_153 HE154 => ?_
        refine pl_x HE154 HH137 (wt0 rfl) (x_load1 tv_4 rfl (c_old (De28 2 _ rfl))) rfl rfl fun a_155 HE156 => ?_
        refine wpList_nil ?_
        clear a_145 HE146 a_147 HE148 a_149 HE150 a_151 HE152 a_153 HE154
        refine nrm ?_
        refine cnd_b HE156 rfl (fun hc31 => ?_) (fun hc31 => ?_)
        · refine rg ?_
          refine pl_x HE156 HH137 (wt0 rfl) (x_move rfl) rfl rfl fun a_157 HE158 => ?_
          refine pl_x HE158 HH137 (wt0 rfl) (x_sadd rfl rfl (by first | omega | (simp only [List.length_append, List.length_cons, List.length_nil]; omega) | (simp; omega))) rfl rfl fun a_159 HE160 => ?_
          refine pl_x HE160 HH137 (wt0 rfl) (x_assign rfl) rfl rfl fun a_161 HE162 => ?_
          refine wpList_nil ?_
          clear a_155 HE156 a_157 HE158 a_159 HE160
          refine blk_n ?_
          refine nrm ?_
          refine rg ?_
          refine pl_x HE162 HH137 (wt0 rfl) (x_move rfl) rfl rfl fun a_163 HE164 => ?_
          refine pl_x HE164 HH137 (wt0 rfl) (x_add rfl rfl (by exact ⟨by omega, by omega⟩)) rfl rfl fun a_165 HE166 => ?_
          refine pl_x HE166 HH137 (wt0 rfl) (x_assign rfl) rfl rfl fun a_167 HE168 => ?_
          refine wpList_nil ?_
          clear a_161 HE162 a_163 HE164 a_165 HE166
          exact nrm ⟨a0.length - (k + 1), (by omega), k + 1, rfl, HE168.sub ⟨(lkS rfl (by first | (rw [join_step0 _ _ (by omega) (by omega), ← xe28]; done) | (rw [join_step1 _ _ (by omega) (by omega), ← xe28]; done) | (rw [join_step0 _ _ (by omega) (by omega), ← xe28]; rfl) | (rw [join_step1 _ _ (by omega) (by omega), ← xe28]; rfl) | (rw [join_step0 _ _ (by omega) (by omega), ← xe28]; simp [mkT, hc31]; done) | (rw [join_step1 _ _ (by omega) (by omega), ← xe28]; simp [mkT, hc31]; done))), (lkI rfl (by first | rfl | omega | (simp [p21_0, hc22, hc23, xe28, hc31]; done))), rfl, trivial⟩, (HH137.sel [] (by decide) rfl), (by first | omega | assumption | (simp; done) | simp_all)⟩
        · refine wp_skip ?_
          refine blk_n ?_
          refine nrm ?_
          refine rg ?_
          refine pl_x HE156 HH137 (wt0 rfl) (x_move rfl) rfl rfl fun a_169 HE170 => ?_
          refine pl_x HE170 HH137 (wt0 rfl) (x_add rfl rfl (by exact ⟨by omega, by omega⟩)) rfl rfl fun a_171 HE172 => ?_
          refine pl_x HE172 HH137 (wt0 rfl) (x_assign rfl) rfl rfl fun a_173 HE174 => ?_
          refine wpList_nil ?_
          clear a_155 HE156 a_169 HE170 a_171 HE172
          exact nrm ⟨a0.length - (k + 1), (by omega), k + 1, rfl, HE174.sub ⟨(lkS rfl (by first | (rw [join_step0 _ _ (by omega) (by omega), ← xe28]; done) | (rw [join_step1 _ _ (by omega) (by omega), ← xe28]; done) | (rw [join_step0 _ _ (by omega) (by omega), ← xe28]; rfl) | (rw [join_step1 _ _ (by omega) (by omega), ← xe28]; rfl) | (rw [join_step0 _ _ (by omega) (by omega), ← xe28]; simp [mkT, hc31]; done) | (rw [join_step1 _ _ (by omega) (by omega), ← xe28]; simp [mkT, hc31]; done))), (lkI rfl (by first | rfl | omega | (simp [p21_0, hc22, hc23, xe28, hc31]; done))), rfl, trivial⟩, (HH137.sel [] (by decide) rfl), (by first | omega | assumption | (simp; done) | simp_all)⟩
    · refine wp_exit ?_
      refine (thn_exit (thn_exit (blk_hit ?_)))
      refine nrm ?_
      refine wp_seq ?_
      refine rg ?_
      refine pl_x HE20 HH12 (wt0 rfl) (x_move rfl) rfl rfl fun a_175 HE176 => ?_
      refine pl_x HE176 HH12 (wt0 rfl) (x_assign rfl) rfl rfl fun a_177 HE178 => ?_
      refine wpList_nil ?_
      clear a_19 HE20 a_175 HE176
      refine nrm ?_
      refine wp_ret ?_
      refine ret1 HE178 rfl (rv_tmp rfl) ?_
      have hF : ((fun l => Go.Lib.join (l.map mkT) [32]) a0) = (Go.Lib.join ((a0.take k).map mkT) [32]) := by
        rw [List.take_of_length_le (by omega)]
      exact ⟨by first | (rw [hF] <;> rfl) | rfl | (rw [hF]; simp only [Ending.returned.injEq, Value.slice.injEq, true_and, and_true]; first | omega | (simp; done)) | (rw [hF]; simp; omega), HH12.below⟩

set_option maxRecDepth 100000 in
set_option maxHeartbeats 4000000 in
theorem spec_MarkovText (A0 : Option Addr) (c0 : Nat) (a0 : (List tMarkovRule)) (w : World) (h0 : Sl eMarkovRule w (Old w) A0 c0 a0) :
    Calls Try.prog 13 #[.slice A0 a0.length c0] w fun e w' => e = .returned (.string (bs (markovText a0))) ∧ Below w.heap.size w w' := by
  have l0 := h0.len
  have HH1 := Held.start Nob w
  refine enter (n := 8) Try.func13 rfl rfl rfl fun a_2 HE3 => ?_
  refine wp_seq ?_
  refine rg ?_
  refine pl_x HE3 HH1 (wt0 rfl) (x_assign rfl) rfl rfl fun a_4 HE5 => ?_
  refine wpList_nil ?_
  clear a_2 HE3
  refine nrm ?_
  refine wp_seq ?_
  refine wp_seq ?_
  refine rg ?_
  refine pl_x HE5 HH1 (wt0 rfl) (x_move rfl) rfl rfl fun a_6 HE7 => ?_
  refine pl fun K_8 hK9 => ?_
  refine st_call HE7 (wt0 rfl) rfl rfl rfl en_42 rfl rfl (spec_l10Markov _ _ a0 _ (HH1.old h0)) fun e w' hr => ?_
  obtain ⟨rfl, rfl⟩ := hr
  refine ⟨_, rfl, fun a_10 HE11 => hK9 _ _ ?_⟩
  refine pl_x HE11 HH1 (wt0 rfl) (x_not rfl) rfl rfl fun a_12 HE13 => ?_
  refine wpList_nil ?_
  clear a_4 HE5 a_6 HE7 a_10 HE11 hK9 K_8
  refine nrm ?_
  refine cnd_nb HE13 rfl (fun hc22 => ?_) (fun hc22 => ?_)
  · refine wp_seq ?_
    refine rg ?_
    refine pl_x HE13 HH1 (wt0 rfl) (x_assign rfl) rfl rfl fun a_14 HE15 => ?_
    refine wpList_nil ?_
    clear a_12 HE13
    refine nrm ?_
    refine wp_ret ?_
    refine (thn_ret ?_)
    refine ret1 HE15 rfl (rv_tmp rfl) ?_
    have hF : (markovText a0) = [] := by
      unfold markovText; simp [hc22]
    exact ⟨by first | (rw [hF] <;> rfl) | rfl | (rw [hF]; simp only [Ending.returned.injEq, Value.slice.injEq, true_and, and_true]; first | omega | (simp; done)) | (rw [hF]; simp; omega), HH1.below⟩
  · obtain ⟨v0, v1⟩ := validMarkov_ok hc22
    refine wp_skip ?_
    refine nrm ?_
    refine wp_seq ?_
    refine rg ?_
    refine pl_x HE13 HH1 (wt0 rfl) (x_move rfl) rfl rfl fun a_16 HE17 => ?_
    refine pl fun K_18 hK19 => ?_
    refine st_call HE17 (wt0 rfl) rfl rfl rfl en_43 rfl rfl (spec_l10MarkovText _ _ a0 _ (HH1.old h0) (by omega) (by assumption)) fun e w' hr => ?_
    obtain ⟨rfl, hbr23⟩ := hr
    have HH20 := HH1.on hbr23
    refine ⟨_, rfl, fun a_21 HE22 => hK19 _ _ ?_⟩
    refine pl_x HE22 HH20 (wt0 rfl) (x_assign rfl) rfl rfl fun a_23 HE24 => ?_
    refine wpList_nil ?_
    clear a_12 HE13 HH1 a_16 HE17 a_21 HE22 hK19 K_18
    refine nrm ?_
    refine wp_ret ?_
    refine ret1 HE24 rfl (rv_tmp rfl) ?_
    have hF : (markovText a0) = (Go.Lib.join (List.map mkT a0) [32]) := by
      unfold markovText; simp [hc22]
    exact ⟨by first | (rw [hF] <;> rfl) | rfl | (rw [hF]; simp only [Ending.returned.injEq, Value.slice.injEq, true_and, and_true]; first | omega | (simp; done)) | (rw [hF]; simp; omega), HH20.below⟩

set_option maxRecDepth 100000 in
set_option maxHeartbeats 4000000 in
theorem law_MarkovText (A0 : Option Addr) (c0 : Nat) (a0 : (List tMarkovRule)) (w : World) (h0 : Sl eMarkovRule w (Old w) A0 c0 a0) :
    Calls Try.prog 4 #[.slice A0 a0.length c0] w fun e w' => e = .returned (.bool true) ∧ Below w.heap.size w w' := by
  have l0 := h0.len
  have HH1 := Held.start Nob w
  refine enter (n := 27) Try.func4 rfl rfl rfl fun a_2 HE3 => ?_
  refine wp_seq ?_
  refine rg ?_
  refine pl_x HE3 HH1 (wt0 rfl) (x_assign rfl) rfl rfl fun a_4 HE5 => ?_
  refine wpList_nil ?_
  clear a_2 HE3
  refine nrm ?_
  refine wp_seq ?_
  refine rg ?_
  refine pl_x HE5 HH1 (wt0 rfl) (x_assign rfl) rfl rfl fun a_6 HE7 => ?_
  refine wpList_nil ?_
  clear a_4 HE5
  refine nrm ?_
  refine wp_seq ?_
  refine rg ?_
  refine pl_x HE7 HH1 (wt0 rfl) (x_move rfl) rfl rfl fun a_8 HE9 => ?_
  refine pl_x HE9 HH1 (wt0 rfl) (x_move rfl) rfl rfl fun a_10 HE11 => ?_
  refine pl fun K_12 hK13 => ?_
  refine st_call HE11 (wt0 rfl) rfl rfl rfl en_12 rfl rfl (sz_MarkovRuleS _ _ a0 1048576 _ (HH1.old h0) (by omega) (by omega)) fun e w' hr => ?_
  obtain ⟨rfl, hbr21⟩ := hr
  have HH14 := HH1.on hbr21
  clear hbr21
  refine ⟨_, rfl, fun a_15 HE16 => hK13 _ _ ?_⟩
  refine pl_x HE16 HH14 (wt0 rfl) (x_assign rfl) rfl rfl fun a_17 HE18 => ?_
  refine wpList_nil ?_
  clear a_6 HE7 a_8 HE9 HH1 a_10 HE11 a_15 HE16 hK13 K_12
  refine nrm ?_
  refine wp_seq ?_
  refine wp_seq ?_
  refine rg ?_
  refine pl_x HE18 HH14 (wt0 rfl) (x_move rfl) rfl rfl fun a_19 HE20 => ?_
  refine pl_x HE20 HH14 (wt0 rfl) (x_lss rfl rfl) rfl rfl fun a_21 HE22 => ?_
  refine wpList_nil ?_
  clear a_17 HE18 a_19 HE20
  refine nrm ?_
  refine cnd_d HE22 rfl (fun hc22 => ?_) (fun hc22 => ?_)
  · refine wp_seq ?_
    refine rg ?_
    refine pl_x HE22 HH14 (wt0 rfl) (x_assign rfl) rfl rfl fun a_23 HE24 => ?_
    refine wpList_nil ?_
    clear a_21 HE22
    refine nrm ?_
    refine wp_ret ?_
    refine (thn_ret ?_)
    refine ret1 HE24 rfl (rv_tmp rfl) ?_
    have hF : true = true := by
      first | rfl | (exfalso; omega)
    exact ⟨by first | (rw [hF] <;> rfl) | rfl | (rw [hF]; simp only [Ending.returned.injEq, Value.slice.injEq, true_and, and_true]; first | omega | (simp; done)) | (rw [hF]; simp; omega), HH14.below⟩
  · have zr21 := left_ok hc22
    refine wp_skip ?_
    refine nrm ?_
    refine wp_seq ?_
    refine rg ?_
    refine pl_x HE22 HH14 (wt0 rfl) (x_move rfl) rfl rfl fun a_25 HE26 => ?_
    refine pl fun K_27 hK28 => ?_
    refine st_call HE26 (wt0 rfl) rfl rfl rfl en_14 rfl rfl (to_MarkovRuleS _ _ a0 _ (HH14.old h0) (by omega)) fun e w' hr => ?_
    obtain ⟨Ar23, cr23, rfl, hor23, hbr23⟩ := hr
    obtain ⟨Sr23, HH29⟩ := HH14.newS hbr23 hor23
    clear hbr23 hor23
    refine ⟨_, rfl, fun a_30 HE31 => hK28 _ _ ?_⟩
    refine pl fun K_32 hK33 => ?_
    refine st_call HE31 (wt0 rfl) rfl rfl rfl en_13 rfl rfl (spec_MarkovText _ _ a0 _ (HH29.sl (i := 0) rfl)) fun e w' hr => ?_
    obtain ⟨rfl, hbr24⟩ := hr
    have HH34 := HH29.on hbr24
    refine ⟨_, rfl, fun a_35 HE36 => hK33 _ _ ?_⟩
    refine pl_x HE36 HH34 (wt0 rfl) (x_assign rfl) rfl rfl fun a_37 HE38 => ?_
    refine wpList_nil ?_
    clear a_21 HE22 HH14 a_25 HE26 K_27 hK28 HH29 a_30 HE31 a_35 HE36 hK33 K_32
    refine nrm ?_
    refine wp_seq ?_
    refine rg ?_
    refine pl_x HE38 HH34 (wt0 rfl) (x_move rfl) rfl rfl fun a_39 HE40 => ?_
    refine pl fun K_41 hK42 => ?_
    refine st_call HE40 (wt0 rfl) rfl rfl rfl en_14 rfl rfl (to_MarkovRuleS _ _ a0 _ (HH34.old h0) (by omega)) fun e w' hr => ?_
    obtain ⟨Ar25, cr25, rfl, hor25, hbr25⟩ := hr
    obtain ⟨Sr25, HH43⟩ := HH34.newS hbr25 hor25
    clear hbr25 hor25
    refine ⟨_, rfl, fun a_44 HE45 => hK42 _ _ ?_⟩
    refine pl_x HE45 HH43 (wt0 rfl) (x_assign rfl) rfl rfl fun a_46 HE47 => ?_
    refine wpList_nil ?_
    clear a_37 HE38 HH34 a_39 HE40 a_44 HE45 hK42 K_41
    refine nrm ?_
    refine wp_seq ?_
    refine rg ?_
    refine pl_x HE47 HH43 (wt0 rfl) (x_move rfl) rfl rfl fun a_48 HE49 => ?_
    refine pl fun K_50 hK51 => ?_
    refine st_call HE49 (wt0 rfl) rfl rfl rfl en_15 rfl rfl (impl_MarkovText _ _ a0 _ (HH43.sl (i := 0) rfl)) fun e w' hr => ?_
    obtain ⟨rfl, hbr26⟩ := hr
    have HH52 := HH43.on hbr26
    refine ⟨_, rfl, fun a_53 HE54 => hK51 _ _ ?_⟩
    refine pl_x HE54 HH52 (wt0 rfl) (x_assign rfl) rfl rfl fun a_55 HE56 => ?_
    refine wpList_nil ?_
    clear a_46 HE47 HH43 a_48 HE49 a_53 HE54 hK51 K_50
    refine nrm ?_
    refine wp_seq ?_
    refine wp_seq ?_
    refine rg ?_
    refine pl_x HE56 HH52 (wt0 rfl) (x_move rfl) rfl rfl fun a_57 HE58 => ?_
    refine pl_x HE58 HH52 (wt0 rfl) (x_move rfl) rfl rfl fun a_59 HE60 => ?_
    refine pl_x HE60 HH52 (wt0 rfl) (x_sneqB rfl rfl) rfl rfl fun a_61 HE62 => ?_
    refine wpList_nil ?_
    clear a_55 HE56 a_57 HE58 a_59 HE60
    refine nrm ?_
    refine cndF HE62 rfl (not_f (decide_eq_true rfl)) ?_
    refine wp_skip ?_
    refine nrm ?_
    refine wp_seq ?_
    refine wp_seq ?_
    refine rg ?_
    refine pl_x HE62 HH52 (wt0 rfl) (x_move rfl) rfl rfl fun a_63 HE64 => ?_
    refine pl_x HE64 HH52 (wt0 rfl) (x_move rfl) rfl rfl fun a_65 HE66 => ?_
    refine pl fun K_67 hK68 => ?_
    refine st_call HE66 (wt0 rfl) rfl rfl rfl en_14 rfl rfl (to_MarkovRuleS _ _ a0 _ (HH52.old h0) (by omega)) fun e w' hr => ?_
    obtain ⟨Ar27, cr27, rfl, hor27, hbr27⟩ := hr
    obtain ⟨Sr27, HH69⟩ := HH52.newS hbr27 hor27
    clear hbr27 hor27
    refine ⟨_, rfl, fun a_70 HE71 => hK68 _ _ ?_⟩
    refine pl fun K_72 hK73 => ?_
    refine st_call HE71 (wt0 rfl) rfl rfl rfl en_16 rfl rfl (eq_SMarkovRule_c _ _ _ _ a0 a0 _ (HH69.sl (i := 1) rfl) (HH69.sl (i := 0) rfl)) fun e w' hr => ?_
    obtain ⟨rfl, hbr28⟩ := hr
    have HH74 := HH69.on hbr28
    clear hbr28
    refine ⟨_, rfl, fun a_75 HE76 => hK73 _ _ ?_⟩
    refine pl_x HE76 HH74 (wt0 rfl) (x_not rfl) rfl rfl fun a_77 HE78 => ?_
    refine wpList_nil ?_
    clear a_61 HE62 a_63 HE64 HH52 a_65 HE66 K_67 hK68 HH69 a_70 HE71 a_75 HE76 hK73 K_72
    refine nrm ?_
    refine cndF HE78 rfl (not_f (eq_SMarkovRule_refl _)) ?_
    refine wp_skip ?_
    refine nrm ?_
    refine wp_seq ?_
    refine rg ?_
    refine pl_x HE78 HH74 (wt0 rfl) (x_assign rfl) rfl rfl fun a_79 HE80 => ?_
    refine wpList_nil ?_
    clear a_77 HE78
    refine nrm ?_
    refine wp_ret ?_
    refine ret1 HE80 rfl (rv_tmp rfl) ?_
    have hF : true = true := by
      first | rfl | (exfalso; omega)
    exact ⟨by first | (rw [hF] <;> rfl) | rfl | (rw [hF]; simp only [Ending.returned.injEq, Value.slice.injEq, true_and, and_true]; first | omega | (simp; done)) | (rw [hF]; simp; omega), HH74.below⟩

end Go.Proofs.Ytjnnkmflpbildaa
