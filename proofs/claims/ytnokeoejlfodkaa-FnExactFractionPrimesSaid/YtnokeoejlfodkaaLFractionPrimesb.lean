/- What the proof of FnExactFractionPrimes needs: contracts of the functions that it reaches, each once. -/
import Derived.Test.YtnokeoejlfodkaaProg
import Derived.Test.YtnokeoejlfodkaaQMem
import Derived.Test.YtnokeoejlfodkaaQOpen
import Derived.Test.YtnokeoejlfodkaaLFractionPrimesa
import Derived.WalkKit
import Derived.WalkSpells
import Derived.Below
import Derived.LoopTactic
import Derived.Outline
import Derived.Deep.QuietTactic
import Derived.BigQuiet
import Derived.Deep.LoopGhost
import Derived.Handy
import Derived.Lib.Hide
import Derived.Shelf.Abstract
import Derived.StillTailTactics
import Derived.OwnWalk
import Derived.Maps.AppendAt
import Derived.RegionTactic
import Derived.Deep.RegionHeld3
import Derived.IntWalk
import Derived.Deep.Upon
import Derived.Laws.OwnMore
import Derived.Maps.AppendAt
import Derived.Lib.SliceRun
import Derived.Lib.AppendZeros
import Derived.Shelf.SortG.Plain
import Derived.Shelf.SortG.SortNone
import Derived.Shelf.SlicesG.CompactI
import Derived.Shelf.SlicesG.SearchI
import Derived.Sort.OwnSortedInts
import Derived.Lib.RowBridge
namespace Go.Proofs.Ytnokeoejlfodkaa
open Go.RowKit

theorem Held.focus {M0 : Nat → Prop} {w0 : World} {xs rs : List Res} {w : World} (h : Held M0 w0 (xs ++ rs) w) : Held (Foot xs) w xs w :=
  ⟨Chg.refl _ _, fun r hr => h.ok r (by simp [hr]), fun r hr b hb => ⟨.inl ⟨r, hr, hb⟩, (h.rng r (by simp [hr]) b hb).2⟩, (List.pairwise_append.1 h.sep).1⟩

theorem Held.back {M0 : Nat → Prop} {w0 : World} {xs ys rs : List Res} {w w' : World} (h : Held M0 w0 (xs ++ rs) w) (h' : Held (Foot xs) w ys w') : Held M0 w0 (ys ++ rs) w' where
  chg := by
    refine ⟨h'.chg.os.trans h.chg.os, h'.chg.tape.trans h.chg.tape, h'.chg.output.trans h.chg.output, Nat.le_trans h.chg.size h'.chg.size, fun k hk hM => ?_⟩
    refine (h'.chg.block k (Nat.lt_of_lt_of_le hk h.chg.size) ?_).trans (h.chg.block k hk hM)
    rintro ⟨r, hr, hb⟩
    rcases (h.rng r (by simp [hr]) k hb).1 with q | q
    · exact hM q
    · omega
  ok := by
    intro r hr
    rcases List.mem_append.1 hr with hr | hr
    · exact h'.ok r hr
    · refine r.loc w w' (fun b hb => h'.chg.block b (h.rng r (by simp [hr]) b hb).2 ?_) (h.ok r (by simp [hr]))
      rintro ⟨s, hs, hb'⟩
      exact (List.pairwise_append.1 h.sep).2.2 s hs r hr b hb' hb
  rng := by
    intro r hr b hb
    rcases List.mem_append.1 hr with hr | hr
    · obtain ⟨h1, h2⟩ := h'.rng r hr b hb
      refine ⟨?_, h2⟩
      rcases h1 with ⟨s, hs, hb'⟩ | h1
      · exact (h.rng s (by simp [hs]) b hb').1
      · exact .inr (Nat.le_trans h.size h1)
    · have h1 := h.rng r (by simp [hr]) b hb
      exact ⟨h1.1, Nat.lt_of_lt_of_le h1.2 h'.chg.size⟩
  sep := by
    refine List.pairwise_append.2 ⟨h'.sep, (List.pairwise_append.1 h.sep).2.1, fun r hr s hs b hb hb' => ?_⟩
    rcases (h'.rng r hr b hb).1 with ⟨q, hq, hb2⟩ | h1
    · exact (List.pairwise_append.1 h.sep).2.2 q hq s hs b hb2 hb'
    · have := (h.rng s (by simp [hs]) b hb').2; omega

theorem Held.oldM {M : Nat → Prop} {w0 : World} {rs : List Res} {w : World} {α : Type} {E : Enc α} {A : Option Addr} {c : Nat} {xs : List α} (h : Held M w0 rs w) (hs : Sl E w0 (Out M w0) A c xs) : Sl E w (Old w) A c xs :=
  (hs.keep (fun p hp => World.cell?_of_block (w := w0) (h.chg.block p.block hp.1 hp.2))).more fun b hb => Nat.lt_of_lt_of_le hb.1 h.chg.size

theorem Held.oldRM {M : Nat → Prop} {w0 : World} {rs : List Res} {w : World} {α : Type} {E : Enc α} {cs : List Value} {x : α} (h : Held M w0 rs w) (hs : E.R w0 (Out M w0) cs x) : E.R w (Old w) cs x :=
  E.more (E.keep hs (fun p hp => World.cell?_of_block (w := w0) (h.chg.block p.block hp.1 hp.2))) fun b hb => Nat.lt_of_lt_of_le hb.1 h.chg.size

/-- A borrowed slice, as a callee that rewrites xs sees it. -/
theorem Held.lend {w0 : World} {xs rs : List Res} {w : World} {α : Type} {E : Enc α} {A : Option Addr} {c : Nat} {zs : List α} (h : Held Nob w0 (xs ++ rs) w) (hs : Sl E w0 (Old w0) A c zs) : Sl E w (Out (Foot xs) w) A c zs :=
  (hs.keep (fun p hp => h.cell0 hp fun h => h)).more fun b hb => ⟨Nat.lt_of_lt_of_le hb h.size, by
    rintro ⟨r, hr, hb'⟩
    rcases (h.rng r (by simp [hr]) b hb').1 with q | q
    · exact q.elim
    · have : b < w0.heap.size := hb
      omega⟩

theorem Held.lendM {M : Nat → Prop} {w0 : World} {xs rs : List Res} {w : World} {α : Type} {E : Enc α} {A : Option Addr} {c : Nat} {zs : List α} (h : Held M w0 (xs ++ rs) w) (hs : Sl E w0 (Out M w0) A c zs) : Sl E w (Out (Foot xs) w) A c zs :=
  (hs.keep (fun p hp => h.cell0 hp.1 hp.2)).more fun b hb => ⟨Nat.lt_of_lt_of_le hb.1 h.size, by
    rintro ⟨r, hr, hb'⟩
    rcases (h.rng r (by simp [hr]) b hb').1 with q | q
    · exact hb.2 q
    · have : b < w0.heap.size := hb.1
      omega⟩

/-- A part that is owned, as a callee that rewrites other parts sees it. -/
theorem Held.lendR {M : Nat → Prop} {w0 : World} {xs rs : List Res} {w : World} {α : Type} {E : Enc α} {S : Nat → Prop} {cs : List Value} {x : α} (h : Held M w0 (xs ++ rs) w) {i : Nat} (hi : rs[i]? = some (rO E S cs x)) : E.R w (Out (Foot xs) w) cs x :=
  E.more (E.read (h.ok _ (List.mem_append_right _ (List.mem_of_getElem? hi)))) fun b hb => ⟨(h.rng _ (List.mem_append_right _ (List.mem_of_getElem? hi)) b hb).2, by
    rintro ⟨r, hr, hb'⟩
    exact (List.pairwise_append.1 h.sep).2.2 r hr _ (List.mem_of_getElem? hi) b hb' hb⟩

theorem Held.lendO {w0 : World} {xs rs : List Res} {w : World} {α : Type} {E : Enc α} {cs : List Value} {x : α} (h : Held Nob w0 (xs ++ rs) w) (hs : E.R w0 (Old w0) cs x) : E.R w (Out (Foot xs) w) cs x :=
  E.more (E.keep hs (fun p hp => h.cell0 hp fun h => h)) fun b hb => ⟨Nat.lt_of_lt_of_le hb h.size, by
    rintro ⟨r, hr, hb'⟩
    rcases (h.rng r (by simp [hr]) b hb').1 with q | q
    · exact q.elim
    · have : b < w0.heap.size := hb
      omega⟩

theorem Held.lendOM {M : Nat → Prop} {w0 : World} {xs rs : List Res} {w : World} {α : Type} {E : Enc α} {cs : List Value} {x : α} (h : Held M w0 (xs ++ rs) w) (hs : E.R w0 (Out M w0) cs x) : E.R w (Out (Foot xs) w) cs x :=
  E.more (E.keep hs (fun p hp => h.cell0 hp.1 hp.2)) fun b hb => ⟨Nat.lt_of_lt_of_le hb.1 h.size, by
    rintro ⟨r, hr, hb'⟩
    rcases (h.rng r (by simp [hr]) b hb').1 with q | q
    · exact hb.2 q
    · have : b < w0.heap.size := hb.1
      omega⟩

theorem Held.nfB {M : Nat → Prop} {w0 : World} {xs rs : List Res} {w : World} (h : Held M w0 (xs ++ rs) w) {i g : Nat} {t : TypeId} {cs : List Value} (hi : rs[i]? = some (rBlk g t cs)) : ¬ Foot xs g := by
  rintro ⟨r, hr, hb'⟩
  exact (List.pairwise_append.1 h.sep).2.2 r hr _ (List.mem_of_getElem? hi) g hb' rfl

theorem block_of_cell {w : World} {b o : Nat} {v : Value} (h : w.cell? ⟨b, o, none⟩ = some v) : b < w.heap.size := by
  rcases Nat.lt_or_ge b w.heap.size with h1 | h1
  · exact h1
  · exfalso
    unfold World.cell? at h
    simp [Array.getElem?_eq_none h1] at h

theorem Held.nfO {w0 : World} {xs rs : List Res} {w : World} (h : Held Nob w0 (xs ++ rs) w) {b o : Nat} {v : Value} (hc : w0.cell? ⟨b, o, none⟩ = some v) : ¬ Foot xs b := by
  rintro ⟨r, hr, hb'⟩
  rcases (h.rng r (by simp [hr]) b hb').1 with q | q
  · exact q.elim
  · have := block_of_cell hc
    omega

theorem Held.nfOM {M : Nat → Prop} {w0 : World} {xs rs : List Res} {w : World} (h : Held M w0 (xs ++ rs) w) {b o : Nat} {v : Value} (hM : ¬ M b) (hc : w0.cell? ⟨b, o, none⟩ = some v) : ¬ Foot xs b := by
  rintro ⟨r, hr, hb'⟩
  rcases (h.rng r (by simp [hr]) b hb').1 with q | q
  · exact hM q
  · have := block_of_cell hc
    omega

/-- The flat part in front given up. -/
theorem Held.unF {M : Nat → Prop} {w0 : World} {rs : List Res} {w : World} {α β : Type} {E : Enc α} {F : Enc β} {S : Nat → Prop} {v : Value} {cs : List Value} {x : α × β} (h1 : E.size = 1) (h : Held M w0 (rO (ePr E F) S (v :: cs) x :: rs) w) : Held M w0 (rO F S cs x.2 :: rs) w := by
  refine h.turn _ ?_ fun _ hb => hb
  rintro ⟨c1, c2, S1, S2, he, k1, k2, o1, o2⟩
  have hl := E.len (E.read o1)
  rw [h1] at hl
  obtain ⟨u, rfl⟩ := List.length_eq_one_iff.1 hl
  simp at he
  obtain ⟨_, rfl⟩ := he
  exact F.omore o2 k2

theorem Held.unP {M : Nat → Prop} {w0 : World} {rs : List Res} {w : World} {α β : Type} {E : Enc α} {F : Enc β} {S : Nat → Prop} {v : Value} {cs : List Value} {x : α × β} (h1 : E.size = 1) (h : Held M w0 (rO (ePr E F) S (v :: cs) x :: rs) w) : ∃ S1 S2, Held M w0 (rO E S1 [v] x.1 :: rO F S2 cs x.2 :: rs) w := by
  obtain ⟨c1, c2, S1, S2, he, k1, k2, o1, o2⟩ := h.ok _ (List.mem_cons_self)
  have hl := E.len (E.read o1)
  rw [h1] at hl
  obtain ⟨u, rfl⟩ := List.length_eq_one_iff.1 hl
  simp at he
  obtain ⟨rfl, rfl⟩ := he
  have hs := List.pairwise_cons.1 h.sep
  refine ⟨S1, S2, h.chg, ?_, ?_, ?_⟩
  · intro r hr
    simp only [List.mem_cons] at hr
    rcases hr with rfl | rfl | hr
    · exact o1
    · exact o2
    · exact h.ok r (by simp [hr])
  · intro r hr b hb
    simp only [List.mem_cons] at hr
    rcases hr with rfl | rfl | hr
    · exact h.rng _ (List.mem_cons_self) b (k1 b hb).1
    · exact h.rng _ (List.mem_cons_self) b (k2 b hb)
    · exact h.rng r (by simp [hr]) b hb
  · refine List.pairwise_cons.2 ⟨fun r hr b hb hb' => ?_, List.pairwise_cons.2 ⟨fun r hr b hb hb' => hs.1 r hr b (k2 b hb) hb', hs.2⟩⟩
    rcases List.mem_cons.1 hr with rfl | hr
    · exact (k1 b hb).2 hb'
    · exact hs.1 r hr b (k1 b hb).1 hb'

/-- An owned slice with one element laid open: its cells es; what the element owns (T) is held apart. -/
def Foc {α : Type} (E : Enc α) (w : World) (S : Nat → Prop) (b off c : Nat) (xs : List α) (k : Nat) (es : List Value) : Prop :=
  k < xs.length ∧ xs.length ≤ c ∧ c ≤ maxLen ∧ S b ∧ es.length = E.size ∧ ∃ (t : TypeId) (cur : Array Value) (T : Nat → Nat → Prop), Blk w b t cur ∧ (∀ i m, T i m → S m ∧ m ≠ b) ∧ (∀ i j m, T i m → T j m → i = j) ∧
    (∀ j v, es[j]? = some v → cur[off + k * E.size + j]? = some v) ∧ ∀ (i : Nat) (x : α), i ≠ k → xs[i]? = some x → ∃ us, E.O w (T i) us x ∧ ∀ j v, us[j]? = some v → cur[off + i * E.size + j]? = some v

theorem Foc.keep {α : Type} {E : Enc α} {w w' : World} {S : Nat → Prop} {b off c : Nat} {xs : List α} {k : Nat} {es : List Value} (h : Foc E w S b off c xs k es) (hk : ∀ b, S b → w'.heap[b]? = w.heap[b]?) : Foc E w' S b off c xs k es := by
  obtain ⟨h1, h2, h3, h4, h5, t, cur, T, hB, hT, hd, hc, hr⟩ := h
  refine ⟨h1, h2, h3, h4, h5, t, cur, T, (hk b h4).trans hB, hT, hd, hc, fun i x hi hx => ?_⟩
  obtain ⟨us, q1, q2⟩ := hr i x hi hx
  exact ⟨us, E.okeep q1 fun m hm => hk m (hT i m hm).1, q2⟩

def rFoc {α : Type} (E : Enc α) (S : Nat → Prop) (b off c : Nat) (xs : List α) (k : Nat) (es : List Value) : Res := ⟨S, fun w => Foc E w S b off c xs k es, fun _ _ h hf => hf.keep h⟩

theorem Held.open {M : Nat → Prop} {w0 : World} {rs : List Res} {w : World} {α : Type} {E : Enc α} {S : Nat → Prop} {A : Option Addr} {c : Nat} {xs : List α} (h : Held M w0 (rSo E S A c xs :: rs) w) {k : Nat} (hk : k < xs.length) :
    ∃ b off es T, A = some ⟨b, off, none⟩ ∧ E.R w (Old w) es xs[k] ∧ (∀ m, T m → S m ∧ m ≠ b) ∧ Held M w0 (rFoc E (fun m => S m ∧ ¬ T m) b off c xs k es :: rO E T es xs[k] :: rs) w := by
  have hso := so_of_o (h.ok _ (List.mem_cons_self))
  have hrng := h.rng _ (List.mem_cons_self)
  obtain ⟨b, off, t, cur, T, hA, hb, hB, hT, hd, hc⟩ := hso.2.2 (by intro e; subst e; simp at hk)
  obtain ⟨es, h1, h2⟩ := hc k xs[k] (List.getElem?_eq_getElem hk)
  have hs := List.pairwise_cons.1 h.sep
  refine ⟨b, off, es, T k, hA, E.more (E.read h1) (fun m hm => (hrng m (hT k m hm).1).2), fun m hm => hT k m hm, h.chg, ?_, ?_, ?_⟩
  · intro r hr
    simp only [List.mem_cons] at hr
    rcases hr with rfl | rfl | hr
    · refine ⟨hk, hso.1, hso.2.1, ⟨hb, fun hm => (hT k b hm).2 rfl⟩, E.len (E.read h1), t, cur, fun i m => i ≠ k ∧ T i m, hB, fun i m hm => ⟨⟨(hT i m hm.2).1, fun hm' => hm.1 (hd i k m hm.2 hm')⟩, (hT i m hm.2).2⟩, fun i j m h3 h4 => hd i j m h3.2 h4.2, h2, fun i x hi hx => ?_⟩
      obtain ⟨us, q1, q2⟩ := hc i x hx
      exact ⟨us, E.omore q1 fun m hm => ⟨hi, hm⟩, q2⟩
    · exact h1
    · exact h.ok r (by simp [hr])
  · intro r hr m hm
    simp only [List.mem_cons] at hr
    rcases hr with rfl | rfl | hr
    · exact hrng m hm.1
    · exact hrng m (hT k m hm).1
    · exact h.rng r (by simp [hr]) m hm
  · refine List.pairwise_cons.2 ⟨fun r hr m hm hm' => ?_, List.pairwise_cons.2 ⟨fun r hr m hm hm' => hs.1 r hr m (hT k m hm).1 hm', hs.2⟩⟩
    rcases List.mem_cons.1 hr with rfl | hr
    · exact hm.2 hm'
    · exact hs.1 r hr m hm.1 hm'

theorem Held.shut {M : Nat → Prop} {w0 : World} {rs : List Res} {w : World} {α : Type} {E : Enc α} {S T : Nat → Prop} {b off c k : Nat} {xs : List α} {es : List Value} {y : α} (h : Held M w0 (rFoc E S b off c xs k es :: rO E T es y :: rs) w) : Held M w0 (rSo E (fun m => S m ∨ T m) (some ⟨b, off, none⟩) c (xs.set k y) :: rs) w := by
  refine h.join _ (fun hf ho hd => ?_) fun _ hb => hb
  obtain ⟨h1, h2, h3, h4, h5, t, cur, T', hB, hT, hd', hc, hr⟩ := hf
  refine oSl ⟨by rw [List.length_set]; exact h2, h3, fun _ => ⟨b, off, t, cur, fun i m => (i = k ∧ T m) ∨ (i ≠ k ∧ T' i m), rfl, .inl h4, hB, ?_, ?_, fun i x hx => ?_⟩⟩
  · rintro i m (⟨_, hm⟩ | ⟨_, hm⟩)
    · exact ⟨.inr hm, fun e => hd b h4 (e ▸ hm)⟩
    · exact ⟨.inl (hT i m hm).1, (hT i m hm).2⟩
  · rintro i j m (⟨hi, hm⟩ | ⟨hi, hm⟩) (⟨hj, hm'⟩ | ⟨hj, hm'⟩)
    · rw [hi, hj]
    · exact absurd hm (hd m (hT j m hm').1)
    · exact absurd hm' (hd m (hT i m hm).1)
    · exact hd' i j m hm hm'
  · by_cases e : i = k
    · subst e
      rw [List.getElem?_set_self h1] at hx
      simp at hx; subst hx
      exact ⟨es, E.omore ho fun m hm => .inl ⟨rfl, hm⟩, hc⟩
    · rw [List.getElem?_set_ne (fun h => e h.symm)] at hx
      obtain ⟨us, q1, q2⟩ := hr i x e hx
      exact ⟨us, E.omore q1 fun m hm => .inr ⟨e, hm⟩, q2⟩

theorem Held.relen {M : Nat → Prop} {w0 : World} {rs : List Res} {w : World} {α : Type} {E : Enc α} {S : Nat → Prop} {A : Option Addr} {c n : Nat} {xs : List α} (h : Held M w0 (rSo E S A c xs :: rs) w) (hn : xs.length = n) : Held M w0 (rO (eSl E) S [.slice A n c] xs :: rs) w := hn ▸ h

theorem Held.lt {M : Nat → Prop} {w0 : World} {rs : List Res} {w : World} (h : Held M w0 rs w) {i : Nat} {r : Res} (hi : rs[i]? = some r) : ∀ b, r.S b → b < w.heap.size := fun b hb => (h.rng r (List.mem_of_getElem? hi) b hb).2

/-- What a callee made, beside what is held. -/
theorem Held.app {M : Nat → Prop} {w0 : World} {rs qs : List Res} {w w' : World} (h : Held M w0 rs w) (h' : Held Nob w qs w') : Held M w0 (qs ++ rs) w' where
  chg := (h.on h'.below).chg
  ok := by
    intro r hr
    rcases List.mem_append.1 hr with hr | hr
    · exact h'.ok r hr
    · exact (h.on h'.below).ok r hr
  rng := by
    intro r hr b hb
    rcases List.mem_append.1 hr with hr | hr
    · have h1 := h'.rng r hr b hb
      exact ⟨.inr (Nat.le_trans h.size (h1.1.resolve_left fun q => q.elim)), h1.2⟩
    · exact (h.on h'.below).rng r hr b hb
  sep := by
    refine List.pairwise_append.2 ⟨h'.sep, h.sep, fun r hr s hs b hb hb' => ?_⟩
    have h1 := (h'.rng r hr b hb).1.resolve_left fun q => q.elim
    have h2 := (h.rng s hs b hb').2
    omega

/-- Held only if p holds. -/
def rIf (p : Prop) (r : Res) : Res := ⟨r.S, fun w => p → r.φ w, fun w w' h hp hq => r.loc w w' h (hp hq)⟩

theorem Held.toIf {M : Nat → Prop} {w0 : World} {rs : List Res} {r : Res} {w : World} (h : Held M w0 (r :: rs) w) (p : Prop) : Held M w0 (rIf p r :: rs) w :=
  h.turn (rIf p r) (fun hr _ => hr) fun _ h => h

theorem Held.ofIf {M : Nat → Prop} {w0 : World} {rs : List Res} {r : Res} {w : World} {p : Prop} (h : Held M w0 (rIf p r :: rs) w) (hp : p) : Held M w0 (r :: rs) w :=
  h.turn r (fun hr => hr hp) fun _ h => h

theorem Held.noIf {M : Nat → Prop} {w0 : World} {rs : List Res} {w : World} {p : Prop} (h : Held M w0 rs w) {α : Type} {E : Enc α} {A : Option Addr} {c : Nat} {xs : List α} (r : Res) (hp : ¬ p) (hr : r = rSo E Nob A c xs := by rfl) : Held M w0 (rIf p r :: rs) w := by
  subst hr
  exact h.new (Below.refl _ _) (rIf p (rSo E Nob A c xs)) (fun hq => absurd hq hp) fun _ h => h.elim

theorem tv_2 : TV Try.prog 2 false [.int .i64 0] := by
  obtain ⟨i, h1, h2, h3⟩ := tv_parts (show (Try.prog.info? 2).map (fun i => (i.zero, i.size)) = some (some (.int .i64 0), 1) from by kernel_rfl)
  exact ⟨⟨_, Try.underlying2, rfl⟩, i, _, h1, h2, h3, rfl⟩

theorem tv_159 : TV Try.prog 159 true [.int .i64 0, .int .i64 0] := by
  obtain ⟨i, h1, h2, h3⟩ := tv_parts (show (Try.prog.info? 159).map (fun i => (i.zero, i.size)) = some (some (.agg #[.int .i64 0, .int .i64 0]), 2) from by kernel_rfl)
  exact ⟨⟨_, Try.underlying159, rfl⟩, i, _, h1, h2, h3, rfl⟩

theorem ts_31 : TSl Try.prog 31 2 1 8 := by
  obtain ⟨i, h1, h2, h3, h4⟩ := ts_parts (show (Try.prog.info? 2).map (fun i => (i.zero, i.size, i.bytes)) = some (some (.int .i64 0), 1, 8) from by kernel_rfl)
  exact ⟨Try.underlying31, i, _, h1, h2, h3, h4, rfl⟩

theorem ts_66 : TSl Try.prog 66 159 2 16 := by
  obtain ⟨i, h1, h2, h3, h4⟩ := ts_parts (show (Try.prog.info? 159).map (fun i => (i.zero, i.size, i.bytes)) = some (some (.agg #[.int .i64 0, .int .i64 0]), 2, 16) from by kernel_rfl)
  exact ⟨Try.underlying66, i, _, h1, h2, h3, h4, rfl⟩

theorem ts_92 : TSl Try.prog 92 31 1 24 := by
  obtain ⟨i, h1, h2, h3, h4⟩ := ts_parts (show (Try.prog.info? 31).map (fun i => (i.zero, i.size, i.bytes)) = some (some (.slice none 0 0), 1, 24) from by kernel_rfl)
  exact ⟨Try.underlying92, i, _, h1, h2, h3, h4, rfl⟩

theorem fa_159_0 : ∀ b o w, (Instr.fieldAt 159 (.pointer (some ⟨b, o, none⟩)) 0).run Try.prog w = .ok (.pointer (some ⟨b, o + 0, none⟩)) w := by
  obtain ⟨i, z, h1, _, h3, _⟩ := tv_2.info
  exact fun b o w => fieldAt_of (f := 0) Try.underlying159 rfl h1 (by rw [h3]; decide) b o w

theorem fa_159_1 : ∀ b o w, (Instr.fieldAt 159 (.pointer (some ⟨b, o, none⟩)) 1).run Try.prog w = .ok (.pointer (some ⟨b, o + 1, none⟩)) w := by
  obtain ⟨i, z, h1, _, h3, _⟩ := tv_2.info
  exact fun b o w => fieldAt_of (f := 1) Try.underlying159 rfl h1 (by rw [h3]; decide) b o w

theorem en_24 : ∀ args w, (callFunc 24 args).run Try.prog w = .ok (.enter 24 args) w := enters_of Try.func24 (by kernel_rfl) rfl

theorem en_25 : ∀ args w, (callFunc 25 args).run Try.prog w = .ok (.enter 25 args) w := enters_of Try.func25 (by kernel_rfl) rfl

theorem en_26 : ∀ args w, (callFunc 26 args).run Try.prog w = .ok (.enter 26 args) w := enters_of Try.func26 (by kernel_rfl) rfl

theorem en_45 : ∀ args w, (callFunc 45 args).run Try.prog w = .ok (.enter 45 args) w := enters_of Try.func45 (by kernel_rfl) rfl

theorem en_47 : ∀ args w, (callFunc 47 args).run Try.prog w = .ok (.enter 47 args) w := enters_of Try.func47 (by kernel_rfl) rfl

theorem en_50 : ∀ args w, (callFunc 50 args).run Try.prog w = .ok (.enter 50 args) w := enters_of Try.func50 (by kernel_rfl) rfl

theorem en_51 : ∀ args w, (callFunc 51 args).run Try.prog w = .ok (.enter 51 args) w := enters_of Try.func51 (by kernel_rfl) rfl

theorem en_76 : ∀ args w, (callFunc 76 args).run Try.prog w = .ok (.enter 76 args) w := enters_of Try.func76 (by kernel_rfl) rfl

theorem en_77 : ∀ args w, (callFunc 77 args).run Try.prog w = .ok (.enter 77 args) w := enters_of Try.func77 (by kernel_rfl) rfl

theorem en_116 : ∀ args w, (callFunc 116 args).run Try.prog w = .ok (.enter 116 args) w := enters_of Try.func116 (by kernel_rfl) rfl

theorem en_123 : ∀ args w, (callFunc 123 args).run Try.prog w = .ok (.enter 123 args) w := enters_of Try.func123 (by kernel_rfl) rfl

theorem en_155 : ∀ args w, (callFunc 155 args).run Try.prog w = .ok (.enter 155 args) w := enters_of Try.func155 (by kernel_rfl) rfl

theorem en_156 : ∀ args w, (callFunc 156 args).run Try.prog w = .ok (.enter 156 args) w := enters_of Try.func156 (by kernel_rfl) rfl

theorem en_157 : ∀ args w, (callFunc 157 args).run Try.prog w = .ok (.enter 157 args) w := enters_of Try.func157 (by kernel_rfl) rfl

theorem en_161 : ∀ args w, (callFunc 161 args).run Try.prog w = .ok (.enter 161 args) w := enters_of Try.func161 (by kernel_rfl) rfl

theorem en_162 : ∀ args w, (callFunc 162 args).run Try.prog w = .ok (.enter 162 args) w := enters_of Try.func162 (by kernel_rfl) rfl

theorem en_163 : ∀ args w, (callFunc 163 args).run Try.prog w = .ok (.enter 163 args) w := enters_of Try.func163 (by kernel_rfl) rfl

theorem hmix : Try.prog.follows .mixedOrders = true := by kernel_rfl

theorem ct_L_len (xs : List Int) : ct_L xs = xs.length := by
  have := cntL_const ct_i 1 xs fun _ => rfl
  unfold ct_L; omega

theorem elem_Int64 : Elem Try.prog eInt 31 2 8 := by
  obtain ⟨i0, hi0, hz0, hz1, hz2⟩ := info_parts info_impl_Int64
  exact ⟨Try.underlying31, i0, _, hi0, hz0, hz1, hz2, rfl⟩

set_option maxRecDepth 100000 in
set_option maxHeartbeats 1000000 in
theorem slices_Grow_nil (n : Nat) (w : World) (hn : n ≤ 1000000000000) :
    Calls Try.prog 248 #[.slice none 0 0, .int .i64 n] w fun e w' => ∃ v, e = .returned v ∧ Row eInt encInt 2 w' w.heap.size v [] ∧ Below w.heap.size w w' := by
  obtain ⟨i0, hi0, hz0, hz1, hz2⟩ := info_parts info_impl_Int64
  by_cases h0 : n = 0
  · subst h0
    go_enter Try.func248, Try.ntmps248
    go_wp2
    go_ret
    exact ⟨_, rfl, Row.nil, Below.refl _ _⟩
  · have hpos : (0 : Int) < (n : Int) := by omega
    have hrun := Lib.run_append_nil_zeros (P := Try.prog) w 31 3 31 2 i0 _ .i64 .i64 Try.underlying31 Try.underlying3 hi0 hz0 n (by omega) (by omega) (by omega) (by rw [hz2]; omega)
    have hge := grownCap_ge w n 0 2
    have hle := grownCap_le_maxLen w n 0 2 (by unfold maxLen; omega)
    have hB := Blk.new w.drew 2 (Builtin.zeroCells (Value.int .i64 0).cells n ++ Builtin.zeroCells (Value.int .i64 0).cells (grownCap w n 0 2 - n))
    have hsz : (Builtin.zeroCells (Value.int .i64 0).cells n ++ Builtin.zeroCells (Value.int .i64 0).cells (grownCap w n 0 2 - n)).size = grownCap w n 0 2 := by
      have : (Value.int IntKind.i64 0).cells.size = 1 := rfl
      simp only [Array.size_append, size_zeroCells, this]; omega
    have HL : Hid (Below w.heap.size w (w.drew.alloc (.cells (Builtin.zeroCells (Value.int .i64 0).cells n ++ Builtin.zeroCells (Value.int .i64 0).cells (grownCap w n 0 2 - n)) 2))) := ((Below.refl _ w).drew).alloc (Nat.le_refl _) _
    generalize hZ : (Builtin.zeroCells (Value.int .i64 0).cells n ++ Builtin.zeroCells (Value.int .i64 0).cells (grownCap w n 0 2 - n)) = Z at *
    generalize hG : grownCap w n 0 2 = cap at *
    clear hZ hG
    have HW := Lib.hid hB; clear hB
    have HSZ := Lib.hid hsz; clear hsz
    have hcap0 : (0 : Int) ≤ (cap : Int) := by omega
    have HR : Hid (Row eInt encInt 2 (w.drew.alloc (.cells Z 2)) w.heap.size (.slice (some ⟨w.heap.size, 0, none⟩) 0 cap) []) := ⟨⟨by simp, .inr ⟨_, cap, Z, rfl, Nat.le_refl _, HW.out, Nat.zero_le _, hle, by rw [HSZ.out]; show cap = cap * 1; omega, by simp⟩⟩, fun _ h => by simp at h⟩
    go_enter Try.func248, Try.ntmps248
    go_wp2_with (at_builtin; refine Lib.wpList_append_run _ rfl _ _ _ _ rfl _ _ rfl rfl _ _ hrun ?_)
    clear hrun
    go_wp2
    go_ret
    exact ⟨_, rfl, HR.out, HL.out⟩

set_option maxRecDepth 100000 in
set_option maxHeartbeats 2000000 in
theorem slices_Concat (A : Option Addr) (c : Nat) (xss : List (List Int)) (w : World) (h : Sl (eSl eInt) w (Old w) A c xss) (hsm : (xss.map List.length).sum ≤ 1000000000000) :
    Calls Try.prog 223 #[.slice A xss.length c] w fun e w' => ∃ A' c', e = .returned (.slice A' xss.flatten.length c') ∧ So eInt w' (Fr w w') A' c' xss.flatten ∧ Below w.heap.size w w' := by
  have hlen := h.len
  have H := Lib.hid h; clear h
  go_enter Try.func223, Try.ntmps223
  go_wp2
  go_loop [3, 5, 11] (fun s3 _ s11 => ∃ k m : Nat, k ≤ xss.length ∧ s11 = .int .i64 k ∧ s3 = .int .i64 m ∧ m ≤ 1000000000000 ∧ Hid (m = ((xss.take k).map List.length).sum)) (fun _ _ s11 => xss.length - (intOf s11).toNat)
  case atStart => exact ⟨0, 0, Nat.zero_le _, rfl, rfl, by omega, rfl⟩
  case round =>
    obtain ⟨k, m, hk, rfl, rfl, hm, HM⟩ := hrel
    by_cases hlt : k < xss.length
    · have hltz : (k : Int) < (xss.length : Int) := by omega
      obtain ⟨b, off, es, rfl, hb, hR, hc⟩ := H.out.at1 rfl hlt
      obtain ⟨A1, c1, rfl, g1⟩ := hR
      have d0 : w.cell? ⟨b, off + k, none⟩ = some (.slice A1 xss[k].length c1) := hc _ rfl
      have h1 := costL_take List.length xss k hlt
      have h2 := cost_le List.length xss (k + 1)
      have HM2 : Hid (m + xss[k].length = ((xss.take (k + 1)).map List.length).sum) := by show _ = _; rw [h1, HM.out]
      have hm2 : m + xss[k].length ≤ 1000000000000 := by rw [HM2.out]; omega
      clear hc g1 h1 h2
      generalize xss[k] = y at d0 HM2 hm2
      have hnn : ¬ ((m : Int) + (y.length : Int) < 0) := by omega
      go_wp2
      go_round
      case rel => exact ⟨k + 1, m + y.length, by omega, by go_num, by go_num, hm2, HM2.out⟩
      case measure => simp [intOf]; omega
    · have hltz : ¬ (k : Int) < (xss.length : Int) := by omega
      obtain rfl : k = xss.length := by omega
      clear hltz hlt hk HM
      go_wp2_with (go_at_call 248; refine (slices_Grow_nil m w hm).mono ?_; rintro e w1 ⟨v, rfl, hrow, hb⟩)
      have HR := Lib.hid hrow
      have HL := Lib.hid hb
      clear hrow hb
      go_loopw [6, 8, 27] (fun s6 _ s27 wr => ∃ k : Nat, k ≤ xss.length ∧ s27 = .int .i64 k ∧ Hid (Row eInt encInt 2 wr w.heap.size s6 ((xss.take k).flatten)) ∧ Hid (Below w.heap.size w wr)) (fun _ _ s27 _ => xss.length - (intOf s27).toNat)
      case atStart => exact ⟨0, Nat.zero_le _, rfl, HR, HL⟩
      case round =>
        clear HR HL
        obtain ⟨k, hk, rfl, HR, BW⟩ := hrel
        by_cases hlt : k < xss.length
        · have hltz : (k : Int) < (xss.length : Int) := by omega
          obtain ⟨b, off, es, rfl, hb, hR, hc⟩ := H.out.at1 rfl hlt
          obtain ⟨A1, c1, rfl, g1⟩ := hR
          have d0 : wr.cell? ⟨b, off + k, none⟩ = some (.slice A1 xss[k].length c1) := (below_olds BW.out _ hb).trans (hc _ rfl)
          have HG := Lib.hid (g1.on BW.out)
          have h1 := costL_take List.length xss k hlt
          have h2 := cost_le List.length xss (k + 1)
          have hl1 : (xss.take k).flatten.length + xss[k].length ≤ 1000000000000 := by rw [List.length_flatten]; omega
          have HF : Hid ((xss.take (k + 1)).flatten = (xss.take k).flatten ++ xss[k]) := by show _ = _; rw [List.take_succ_eq_append_getElem hlt, List.flatten_append]; simp
          clear hc g1 h1 h2
          generalize xss[k] = y at d0 HF HG hl1
          have hbase := BW.out.size
          go_wp2_with (at_builtin; refine wpList_append_row flat_int elem_Int64 rfl _ _ rfl (base := w.heap.size) rfl HR.out rfl HG.out (by unfold maxLen; omega) (by omega) hbase ?_)
          intro v' w2 hrow hgrow hat
          have HR2 : Hid (Row eInt encInt 2 w2 w.heap.size v' ((xss.take (k + 1)).flatten)) := by show Row _ _ _ _ _ _ _; rw [HF.out]; exact hrow
          have HL2 : Hid (Below w.heap.size w w2) := BW.out.grown hgrow hbase (fun b hb => (HR.out.lt b hb).1)
          clear hrow hgrow hat
          go_wp2
          go_roundw
          case rel => exact ⟨k + 1, by omega, by go_num, HR2.out, HL2.out⟩
          case measure => simp [intOf]; omega
        · have hltz : ¬ (k : Int) < (xss.length : Int) := by omega
          obtain rfl : k = xss.length := by omega
          have h3 := HR.out
          rw [List.take_length] at h3
          obtain ⟨A', c', rfl, hso⟩ := h3.so
          have HO := Lib.hid hso; clear hso h3 HR
          go_wp2
          go_ret
          exact ⟨A', c', rfl, HO.out, BW.out⟩

theorem impl_joined (A : Option Addr) (c : Nat) (xss : List (List Int)) (w : World) (h : Sl (eSl eInt) w (Old w) A c xss) (hsm : (xss.map List.length).sum ≤ 1000000000000) :
    Calls Try.prog 162 #[.slice A xss.length c] w fun e w' => ∃ A' c', e = .returned (.slice A' xss.flatten.length c') ∧ So eInt w' (Fr w w') A' c' xss.flatten ∧ Below w.heap.size w w' := by
  have HC := Lib.hid (slices_Concat A c xss w h hsm); clear h
  go_enter Try.func162, Try.ntmps162
  go_wp2_with (go_at_call 223; refine HC.out.mono ?_; rintro e w1 ⟨A', c', rfl, hso, hb⟩)
  go_ret
  exact ⟨A', c', by rw [List.length_flatten]; rfl, hso, hb⟩

def fracBad (x : tFraction) : Bool := !withinB x.1 1 999999 || !withinB x.2 1 999999

theorem enters_ValidFractions1 : ∀ args w, (callFunc 197 args).run Try.prog w = .ok (.enter 197 args) w := enters_of Try.func197 (by kernel_rfl) rfl

theorem impl_ValidFractions1 (es : List Value) (x : tFraction) (w : World) (h : eFraction.R w (Old w) es x) :
    Calls Try.prog 197 #[.agg es.toArray] w fun e w' => e = .returned (.bool (fracBad x)) ∧ Below w.heap.size w w' := by
  obtain ⟨rfl, _, _⟩ := shape_Fraction h
  clear h
  unfold fracBad
  obtain ⟨u, d⟩ := x
  cases h1 : withinB u 1 999999
  · go_enter Try.func197, Try.ntmps197
    go_wp2_with (go_at_call 112; refine (impl_within _ _ _ _).mono ?_; rintro e w' ⟨rfl, rfl⟩; rw [h1])
    go_ret
    exact ⟨by first | (simp; done) | simp [h1], (Below.refl _ _).alloc (Nat.le_refl _) _⟩
  · go_enter Try.func197, Try.ntmps197
    go_wp2_with (go_at_call 112; refine (impl_within _ _ _ _).mono ?_; rintro e w' ⟨rfl, rfl⟩; (try rw [h1]))
    go_ret
    exact ⟨by first | (simp; done) | simp [h1], (Below.refl _ _).alloc (Nat.le_refl _) _⟩

def validFrac (xs : List tFraction) : Bool := withinB xs.length 1 100 && !xs.any fracBad

theorem impl_ValidFractions (A : Option Addr) (c : Nat) (xs : List tFraction) (w : World) (h : Sl eFraction w (Old w) A c xs) :
    Calls Try.prog 123 #[.slice A xs.length c] w fun e w' => e = .returned (.bool (validFrac xs)) ∧ Below w.heap.size w w' := by
  unfold validFrac
  have hI := Lib.hid (ContainsFunc_Fraction fracBad 197 #[] A c xs w h enters_ValidFractions1 (fun W x es _ hb hR => impl_ValidFractions1 es x W hR)); clear h
  cases h1 : withinB xs.length 1 100
  · go_enter Try.func123, Try.ntmps123
    go_wp2_with (first | (go_at_call 195; refine (impl_size_Fraction _ _ _ _).mono ?_; rintro e w' ⟨rfl, rfl⟩) | (go_at_call 112; refine (impl_within _ _ _ _).mono ?_; rintro e w' ⟨rfl, rfl⟩; rw [h1]))
    go_ret
    exact ⟨by simp, Below.refl _ _⟩
  · go_enter Try.func123, Try.ntmps123
    go_wp2_with (first | (go_at_call 195; refine (impl_size_Fraction _ _ _ _).mono ?_; rintro e w' ⟨rfl, rfl⟩) | (go_at_call 112; refine (impl_within _ _ _ _).mono ?_; rintro e w' ⟨rfl, rfl⟩; rw [h1]) | (go_at_call 196; refine hI.out.mono ?_; rintro e w' ⟨rfl, hb⟩))
    go_ret
    exact ⟨by simp, hb⟩

set_option maxHeartbeats 400000 in
theorem spec_l08Is (A : Option Addr) (c : Nat) (xs : List tFraction) (w : World) (h : Sl eFraction w (Old w) A c xs) :
    Calls Try.prog 116 #[.slice A xs.length c] w fun e w' => e = .returned (.bool (validFrac xs)) ∧ w = w' := by
  unfold validFrac
  have hlen := h.len
  have H := Lib.hid h; clear h
  by_cases h1 : xs.length < 1
  · have hw : withinB xs.length 1 100 = false := by unfold withinB; simp; omega
    rw [hw]
    have h1' : (xs.length : Int) < 1 := by omega
    go_enter Try.func116, Try.ntmps116
    go_wp2
    go_ret
    exact ⟨rfl, rfl⟩
  by_cases h2 : xs.length > 100
  · have hw : withinB xs.length 1 100 = false := by unfold withinB; simp; omega
    rw [hw]
    have h1' : decide ((xs.length : Int) < 1) = false := by simp; omega
    have h2' : (100 : Int) < (xs.length : Int)  := by omega
    go_enter Try.func116, Try.ntmps116
    go_wp2
    go_ret
    exact ⟨rfl, rfl⟩
  have hw : withinB xs.length 1 100 = true := by unfold withinB; simp; omega
  rw [hw]; clear hw
  have h1' : decide ((xs.length : Int) < 1) = false := by simp; omega
  have h2' : decide ((100 : Int) < (xs.length : Int)) = false := by simp; omega
  go_enter Try.func116, Try.ntmps116
  go_wp2
  go_loop [3] (fun i => ∃ k : Nat, k ≤ xs.length ∧ i = .int .i64 k ∧ Hid ((xs.take k).any fracBad = false)) (fun i => xs.length - (intOf i).toNat)
  case atStart => exact ⟨0, Nat.zero_le _, rfl, rfl⟩
  case round =>
    obtain ⟨k, hk, rfl, HN⟩ := hrel
    by_cases hlt : k < xs.length
    · have hltz : (k : Int) < (xs.length : Int) := by omega
      obtain ⟨b, off, es, rfl, hb, hR, hc⟩ := H.out.at hlt
      obtain ⟨rfl, hi1, hi2⟩ := shape_Fraction hR
      have c0 : w.cell? ⟨b, off + k * 2, none⟩ = some (.int .i64 xs[k].1) := hc 0 _ rfl
      have c1 : w.cell? ⟨b, off + k * 2 + 1, none⟩ = some (.int .i64 xs[k].2) := hc 1 _ rfl
      clear hc hR hi1 hi2
      have HF : Hid (fracBad xs[k] = (!withinB xs[k].1 1 999999 || !withinB xs[k].2 1 999999)) := rfl
      have HT : Hid (fracBad xs[k] = true → xs.any fracBad = true) := fun e => any_hit hlt e
      have HS : Hid (fracBad xs[k] = false → (xs.take (k + 1)).any fracBad = false) := fun e => any_step hlt HN.out e
      generalize xs[k] = y at c0 c1 HF HT HS
      obtain ⟨u, d⟩ := y
      cases q1 : withinB u 1 999999
      · go_wp2_with (go_at_call 108; refine (spec_l00In _ _ _ _).mono ?_; rintro e w' ⟨rfl, rfl⟩; rw [q1])
        go_ret
        exact ⟨by rw [HT.out (by rw [HF.out]; simp [q1])]; rfl, rfl⟩
      · cases q2 : withinB d 1 999999
        · go_wp2_with (go_at_call 108; refine (spec_l00In _ _ _ _).mono ?_; rintro e w' ⟨rfl, rfl⟩; first | rw [q1] | rw [q2])
          go_ret
          exact ⟨by rw [HT.out (by rw [HF.out]; simp [q1, q2])]; rfl, rfl⟩
        · go_wp2_with (go_at_call 108; refine (spec_l00In _ _ _ _).mono ?_; rintro e w' ⟨rfl, rfl⟩; first | rw [q1] | rw [q2])
          go_round
          case rel => exact ⟨k + 1, by omega, by go_num, HS.out (by rw [HF.out]; simp [q1, q2])⟩
          case measure => simp [intOf]; omega
    · have hltz : ¬ (k : Int) < (xs.length : Int) := by omega
      obtain rfl : k = xs.length := by omega
      go_wp2
      go_ret
      refine ⟨?_, rfl⟩
      have := HN.out
      rw [List.take_length] at this
      rw [this]; rfl

theorem left_ok {l : Int} {n : Nat} (h : ¬ left l n < 0) : left l n = l - (n : Int) ∧ (n : Int) ≤ l := by
  unfold left at *; split at h <;> simp_all <;> omega

theorem validFrac_facts {xs : List tFraction} (h : validFrac xs = true) : xs.length ≤ 100 ∧ ∀ x ∈ xs, (1 ≤ x.1 ∧ x.1 ≤ 999999) ∧ 1 ≤ x.2 ∧ x.2 ≤ 999999 := by
  unfold validFrac at h
  simp only [Bool.and_eq_true, Bool.not_eq_true', List.any_eq_false] at h
  have h1 := withinB_true.1 h.1
  refine ⟨by omega, fun x hx => ?_⟩
  have := h.2 x hx
  unfold fracBad at this
  simp only [Bool.or_eq_true, not_or, Bool.not_eq_true', Bool.not_eq_false] at this
  have h2 := withinB_true.1 this.1
  have h3 := withinB_true.1 this.2
  omega

theorem heap_row {w : World} {g n off : Nat} {os : Array Obj} {cur : Array Value} {e : TypeId} {fr : Nat × Nat} (d : Array Int) (hb : w.heap[g]? = some (.cells cur e fr)) :
    (Go.Sort.grow (Go.Sort.putRow (Value.int .i64) (Go.Sort.ahead w n) g off d) os).heap[g]? = some (.cells (Go.Sort.putCells (Value.int .i64) off d cur) e fr) := by
  have hg : g < w.heap.size := (Array.getElem?_eq_some_iff.1 hb).1
  rw [Go.Sort.heap_grow_old _ _ (by simpa using hg)]
  simp [Go.Sort.putRow, Go.Sort.mapBlock, Go.Sort.ahead, Array.getElem?_modify, hb, Go.Sort.onCells]

theorem chg_row {w : World} {g n off : Nat} {os : Array Obj} {S : Nat → Prop} (d : Array Int) (hS : S g) : Chg S w (Go.Sort.grow (Go.Sort.putRow (Value.int .i64) (Go.Sort.ahead w n) g off d) os) := by
  refine ⟨rfl, rfl, rfl, by simp, fun k hk hne => ?_⟩
  rw [Go.Sort.heap_grow_old _ _ (by simpa using hk)]
  have : g ≠ k := fun e => hne (by rw [← e]; exact hS)
  simp [Go.Sort.putRow, Go.Sort.mapBlock, Go.Sort.ahead, Array.getElem?_modify, this]

theorem so_row {w : World} {S : Nat → Prop} {A : Option Addr} {c : Nat} {xs : List Int} (h : So eInt w S A c xs) (hx : xs ≠ []) :
    ∃ b off, A = some ⟨b, off, none⟩ ∧ S b ∧ b < w.heap.size ∧ Go.Sort.Holds (Value.int .i64) w b off xs.toArray ∧ (∀ x ∈ xs, I64 x) ∧
      ∀ (ys : List Int) (n : Nat) (os : Array Obj), ys.length = xs.length → (∀ y ∈ ys, I64 y) → So eInt (Go.Sort.grow (Go.Sort.putRow (Value.int .i64) (Go.Sort.ahead w n) b off ys.toArray) os) S A c ys ∧ Chg S w (Go.Sort.grow (Go.Sort.putRow (Value.int .i64) (Go.Sort.ahead w n) b off ys.toArray) os) := by
  obtain ⟨h1, h2, h3⟩ := h
  obtain ⟨b, off, t, cur, T, rfl, hb, hB, hT1, hT2, hE⟩ := h3 hx
  have hcell : ∀ (i : Nat) (x : Int), xs[i]? = some x → cur[off + i]? = some (.int .i64 x) ∧ I64 x := by
    intro i x hi
    obtain ⟨es, ⟨rfl, hI⟩, hc⟩ := hE i x hi
    have := hc 0 _ rfl
    rw [show off + i * eInt.size + 0 = off + i from by simp [eInt]] at this
    exact ⟨this, hI⟩
  refine ⟨b, off, rfl, hb, Blk.lt hB, ?_, ?_, ?_⟩
  · intro j hj
    have hj' : j < xs.length := by simpa using hj
    refine ⟨?_, by
      have hB' : w.heap[b]? = some (.cells cur t (0, 0)) := hB
      simp [World.frozen?, hB']⟩
    rw [hB.cell, (hcell j xs[j] (List.getElem?_eq_getElem hj')).1]
    simp [hj']
  · intro x hx'
    obtain ⟨i, hi⟩ := List.mem_iff_getElem?.1 hx'
    exact (hcell i x hi).2
  · intro ys n os hl hI
    refine ⟨⟨by omega, h2, fun _ => ⟨b, off, t, _, T, rfl, hb, heap_row ys.toArray hB, hT1, hT2, ?_⟩⟩, chg_row _ hb⟩
    intro i y hy
    refine ⟨[.int .i64 y], ⟨rfl, hI y (List.mem_of_getElem? hy)⟩, fun j v hv => ?_⟩
    rcases j with _ | j
    · simp at hv
      subst hv
      have hi : i < xs.length := by have := (List.getElem?_eq_some_iff.1 hy).1; omega
      have hc := (hcell i xs[i] (List.getElem?_eq_getElem hi)).1
      have hi2 : i < ys.length := by omega
      have hy2 : ys[i] = y := by rw [List.getElem?_eq_getElem hi2] at hy; exact Option.some.inj hy
      rw [show off + i * eInt.size + 0 = off + i from by simp [eInt]]
      simp [Go.Sort.putCells, Array.getElem?_mapIdx, hc, hi2, hy2]
    · simp at hv

def sortI (xs : List Int) : List Int := xs.mergeSort fun x y => decide (x ≤ y)

theorem sortI_len (xs : List Int) : (sortI xs).length = xs.length := List.length_mergeSort xs

theorem sortI_mem {xs : List Int} {x : Int} : x ∈ sortI xs ↔ x ∈ xs := (List.mergeSort_perm xs _).mem_iff

def shelf_sort_ren : Go.Shelf.Ren := ⟨fun | 53 => 156 | 64 => 220 | 63 => 219 | 78 => 246 | 79 => 247 | 70 => 238 | 71 => 239 | 72 => 240 | 73 => 241 | 74 => 242 | 75 => 243 | 59 => 179 | 76 => 244 | 77 => 245 | 88 => 251 | 89 => 252 | 90 => 253 | 91 => 254 | 92 => 255 | 68 => 228 | 96 => 264 | n => n, fun | 22 => 31 | 23 => 2 | 3 => 3 | 51 => 209 | 0 => 0 | 67 => 263 | 69 => 265 | 4 => 4 | 61 => 257 | 60 => 256 | 44 => 128 | 5 => 5 | 9 => 9 | 75 => 269 | 79 => 273 | 83 => 280 | 84 => 281 | n => n, fun | n => n⟩

theorem shelf_sort : Go.Proofs.SlLaysN.n53 Try.prog shelf_sort_ren := {
  mixed := by kernel_rfl
  f53 := ⟨Try.f156.name, by decide, Try.func156.trans (congrArg some (by kernel_rfl))⟩
  f59 := ⟨Try.f179.name, by decide, Try.func179.trans (congrArg some (by kernel_rfl))⟩
  f63 := ⟨Try.f219.name, by decide, Try.func219.trans (congrArg some (by kernel_rfl))⟩
  f64 := Try.func220.trans (congrArg some (by kernel_rfl))
  f68 := ⟨Try.f228.name, by decide, Try.func228.trans (congrArg some (by kernel_rfl))⟩
  f70 := ⟨Try.f238.name, by decide, Try.func238.trans (congrArg some (by kernel_rfl))⟩
  f71 := ⟨Try.f239.name, by decide, Try.func239.trans (congrArg some (by kernel_rfl))⟩
  f72 := ⟨Try.f240.name, by decide, Try.func240.trans (congrArg some (by kernel_rfl))⟩
  f73 := ⟨Try.f241.name, by decide, Try.func241.trans (congrArg some (by kernel_rfl))⟩
  f74 := ⟨Try.f242.name, by decide, Try.func242.trans (congrArg some (by kernel_rfl))⟩
  f75 := ⟨Try.f243.name, by decide, Try.func243.trans (congrArg some (by kernel_rfl))⟩
  f76 := ⟨Try.f244.name, by decide, Try.func244.trans (congrArg some (by kernel_rfl))⟩
  f77 := ⟨Try.f245.name, by decide, Try.func245.trans (congrArg some (by kernel_rfl))⟩
  f78 := Try.func246.trans (congrArg some (by kernel_rfl))
  f79 := Try.func247.trans (congrArg some (by kernel_rfl))
  f88 := ⟨Try.f251.name, by decide, Try.func251.trans (congrArg some (by kernel_rfl))⟩
  f89 := Try.func252.trans (congrArg some (by kernel_rfl))
  f90 := Try.func253.trans (congrArg some (by kernel_rfl))
  f91 := ⟨Try.f254.name, by decide, Try.func254.trans (congrArg some (by kernel_rfl))⟩
  f92 := ⟨Try.f255.name, by decide, Try.func255.trans (congrArg some (by kernel_rfl))⟩
  f96 := ⟨Try.f264.name, by decide, Try.func264.trans (congrArg some (by kernel_rfl))⟩
  t0 := Try.underlying0
  a0 := Try.isAgg0
  z0 := Try.sizeOf0
  v0 := Try.zeroValue0
  t3 := Try.underlying3
  a3 := Try.isAgg3
  z3 := Try.sizeOf3
  v3 := Try.zeroValue3
  t4 := Try.underlying4
  a4 := Try.isAgg4
  z4 := Try.sizeOf4
  v4 := Try.zeroValue4
  t5 := Try.underlying5
  a5 := Try.isAgg5
  z5 := Try.sizeOf5
  v5 := Try.zeroValue5
  t9 := Try.underlying9
  a9 := Try.isAgg9
  z9 := Try.sizeOf9
  v9 := Try.zeroValue9
  t22 := Try.underlying31
  a22 := Try.isAgg31
  z22 := Try.sizeOf31
  v22 := Try.zeroValue31
  t23 := Try.underlying2
  a23 := Try.isAgg2
  z23 := Try.sizeOf2
  v23 := Try.zeroValue2
  t44 := Try.underlying128
  a44 := Try.isAgg128
  z44 := Try.sizeOf128
  v44 := Try.zeroValue128
  t51 := Try.underlying209
  a51 := Try.isAgg209
  z51 := Try.sizeOf209
  v51 := Try.zeroValue209
  t60 := Try.underlying256
  a60 := Try.isAgg256
  z60 := Try.sizeOf256
  v60 := Try.zeroValue256
  t61 := Try.underlying257
  a61 := Try.isAgg257
  z61 := Try.sizeOf257
  v61 := Try.zeroValue257
  t67 := Try.underlying263
  a67 := Try.isAgg263
  z67 := Try.sizeOf263
  v67 := Try.zeroValue263
  t69 := Try.underlying265
  a69 := Try.isAgg265
  z69 := Try.sizeOf265
  v69 := Try.zeroValue265
  t75 := Try.underlying269
  a75 := Try.isAgg269
  z75 := Try.sizeOf269
  v75 := Try.zeroValue269
  t79 := Try.underlying273
  a79 := Try.isAgg273
  z79 := Try.sizeOf273
  v79 := Try.zeroValue273
  t83 := Try.underlying280
  a83 := Try.isAgg280
  z83 := Try.sizeOf280
  v83 := Try.zeroValue280
  t84 := Try.underlying281
  a84 := Try.isAgg281
  z84 := Try.sizeOf281
  v84 := Try.zeroValue281 }

def shelf_compact_ren : Go.Shelf.Ren := ⟨fun | 43 => 157 | n => n, fun | 22 => 31 | 23 => 2 | 3 => 3 | 4 => 4 | 0 => 0 | n => n, fun | n => n⟩

theorem shelf_compact : Go.Proofs.SlLaysN.n43 Try.prog shelf_compact_ren := {
  mixed := by kernel_rfl
  f43 := ⟨Try.f157.name, by decide, Try.func157.trans (congrArg some (by kernel_rfl))⟩
  t0 := Try.underlying0
  a0 := Try.isAgg0
  z0 := Try.sizeOf0
  v0 := Try.zeroValue0
  t3 := Try.underlying3
  a3 := Try.isAgg3
  z3 := Try.sizeOf3
  v3 := Try.zeroValue3
  t4 := Try.underlying4
  a4 := Try.isAgg4
  z4 := Try.sizeOf4
  v4 := Try.zeroValue4
  t22 := Try.underlying31
  a22 := Try.isAgg31
  z22 := Try.sizeOf31
  v22 := Try.zeroValue31
  t23 := Try.underlying2
  a23 := Try.isAgg2
  z23 := Try.sizeOf2
  v23 := Try.zeroValue2
  i23 := by kernel_rfl }

theorem Sort_Int64 (M : Nat → Prop) (A : Option Addr) (c : Nat) (a : List Int) (S : Nat → Prop) (w : World) (HM : Held M w [rSo eInt S A c a] w) (s0 : a.length ≤ 1000000000) :
    Calls Try.prog 156 #[.slice A a.length c] w fun e w' => ∃ (S' : Nat → Prop), e = .returned (.tuple #[]) ∧ Held M w [rSo eInt S' A c (sortI a)] w' := by
  by_cases hx : a = []
  · subst hx
    refine (show Calls Try.prog 156 #[.slice A 0 c] w _ from AnyG.slices_Sort_int_none shelf_sort A c w).mono ?_
    rintro e w' ⟨rfl, rfl⟩
    exact ⟨S, rfl, by rw [show sortI [] = [] from by simp [sortI]]; exact HM⟩
  · obtain ⟨b, off, rfl, hb, hlt, hH, hI, hput⟩ := so_row (so_of_o (HM.get (i := 0) rfl)) hx
    refine (show Calls Try.prog 156 #[.slice (some ⟨b, off, none⟩) a.length c] w _ from AnyG.slices_Sort_int shelf_sort b off c a w hH hlt (by omega)).mono ?_
    rintro e w' ⟨rfl, n, os, rfl⟩
    obtain ⟨h1, h2⟩ := hput (sortI a) n os (sortI_len a) fun y hy => hI y (sortI_mem.1 hy)
    exact ⟨S, rfl, HM.mut (i := 0) rfl h2 (rSo eInt S (some ⟨b, off, none⟩) c (sortI a)) (oSl h1) fun _ hb => .inl hb⟩

def compI (xs : List Int) : List Int := Go.Lib.compact xs

theorem compI_le (xs : List Int) : (compI xs).length ≤ xs.length := Go.Lib.compact_length_le xs

theorem compactUp_mem (d : Array Int) : ∀ (m : Nat) (x : Int), x ∈ Go.Lib.compactUpTo d m ↔ ∃ j, j < m ∧ d[j]! = x
  | 0, x => by simp [Go.Lib.compactUpTo]
  | m + 1, x => by
    rw [Go.Lib.compactUpTo_succ, List.mem_append, compactUp_mem d m x]
    constructor
    · rintro (⟨j, hj, rfl⟩ | h)
      · exact ⟨j, by omega, rfl⟩
      · split at h
        · exact ⟨m, by omega, (List.mem_singleton.1 h).symm⟩
        · cases h
    · rintro ⟨j, hj, rfl⟩
      by_cases e : j = m
      · subst e
        by_cases hk : Go.Lib.keeps d j = true
        · right; rw [if_pos hk]; simp
        · left
          unfold Go.Lib.keeps at hk
          simp at hk
          exact ⟨j - 1, by omega, hk.2.symm⟩
      · left; exact ⟨j, by omega, rfl⟩

theorem compactUp_rise (d : Array Int) (hs : ∀ i j, i ≤ j → j < d.size → d[i]! ≤ d[j]!) : ∀ m, m ≤ d.size → (Go.Lib.compactUpTo d m).Pairwise (· < ·)
  | 0, _ => by simp [Go.Lib.compactUpTo]
  | m + 1, hm => by
    rw [Go.Lib.compactUpTo_succ]
    have ih := compactUp_rise d hs m (by omega)
    split
    · rename_i hk
      refine List.pairwise_append.2 ⟨ih, by simp, fun x hx y hy => ?_⟩
      rw [List.mem_singleton.1 hy]
      obtain ⟨j, hj, rfl⟩ := (compactUp_mem d m x).1 hx
      unfold Go.Lib.keeps at hk
      simp at hk
      have h1 := hs j (m - 1) (by omega) (by omega)
      have h2 := hs (m - 1) m (by omega) (by omega)
      have h3 : d[m]! ≠ d[m - 1]! := by
        rcases hk with hk | hk
        · omega
        · exact hk
      omega
    · simpa using ih

theorem compI_mem {xs : List Int} {x : Int} : x ∈ compI xs ↔ x ∈ xs := by
  unfold compI Go.Lib.compact
  rw [compactUp_mem]
  constructor
  · rintro ⟨j, hj, rfl⟩
    simp [hj]
  · intro h
    obtain ⟨j, hj, rfl⟩ := List.mem_iff_getElem.1 h
    exact ⟨j, hj, by simp [hj]⟩

theorem compI_rise {xs : List Int} (h : xs.Pairwise (· ≤ ·)) : (compI xs).Pairwise (· < ·) := by
  refine compactUp_rise xs.toArray (fun i j hij hj => ?_) _ (by simp)
  have hj' : j < xs.length := by simpa using hj
  rcases Nat.lt_or_eq_of_le hij with h1 | rfl
  · have := List.pairwise_iff_getElem.1 h i j (by omega) hj' h1
    simpa [hj', show i < xs.length by omega] using this
  · exact Int.le_refl _

theorem sortI_rise (xs : List Int) : (sortI xs).Pairwise (· ≤ ·) := by
  have := List.pairwise_mergeSort (le := fun x y : Int => decide (x ≤ y)) (fun a b c h1 h2 => by simp at *; omega) (fun a b => by simp; omega) xs
  exact this.imp fun h => by simpa using h

theorem rise_ext : ∀ {xs ys : List Int}, xs.Pairwise (· < ·) → ys.Pairwise (· < ·) → (∀ x, x ∈ xs ↔ x ∈ ys) → xs = ys
  | [], [], _, _, _ => rfl
  | [], y :: ys, _, _, h => by have := (h y).2 (by simp); cases this
  | x :: xs, [], _, _, h => by have := (h x).1 (by simp); cases this
  | x :: xs, y :: ys, hx, hy, h => by
    obtain ⟨hx1, hx2⟩ := List.pairwise_cons.1 hx
    obtain ⟨hy1, hy2⟩ := List.pairwise_cons.1 hy
    have e : x = y := by
      have h1 := (h x).1 (by simp)
      have h2 := (h y).2 (by simp)
      rcases List.mem_cons.1 h1 with h1 | h1
      · exact h1
      · rcases List.mem_cons.1 h2 with h2 | h2
        · exact h2.symm
        · have := hx1 y h2
          have := hy1 x h1
          omega
    subst e
    rw [rise_ext hx2 hy2 fun z => ?_]
    constructor
    · intro hz
      rcases List.mem_cons.1 ((h z).1 (by simp [hz])) with q | q
      · have := hx1 z hz; omega
      · exact q
    · intro hz
      rcases List.mem_cons.1 ((h z).2 (by simp [hz])) with q | q
      · have := hy1 z hz; omega
      · exact q

theorem Compact_Int64 (M : Nat → Prop) (A : Option Addr) (c : Nat) (a : List Int) (S : Nat → Prop) (w : World) (HM : Held M w [rSo eInt S A c a] w) (s0 : a.length ≤ 1000000000) :
    Calls Try.prog 157 #[.slice A a.length c] w fun e w' => ∃ (A' : Option Addr) (c' : Nat) (S' : Nat → Prop), e = .returned (.slice A' (compI a).length c') ∧ Held M w [rSo eInt S' A' c' (compI a)] w' := by
  by_cases hx : a = []
  · subst hx
    refine (show Calls Try.prog 157 #[.slice A 0 c] w _ from AnyG.slices_Compact_int_empty shelf_compact A c w).mono ?_
    rintro e w' ⟨rfl, rfl⟩
    exact ⟨A, c, S, rfl, HM⟩
  · obtain ⟨b, off, rfl, hb, hlt, hH, hI, hput⟩ := so_row (so_of_o (HM.get (i := 0) rfl)) hx
    have hcap := (so_of_o (HM.get (i := 0) rfl)).1
    refine (show Calls Try.prog 157 #[.slice (some ⟨b, off, none⟩) a.length c] w _ from AnyG.slices_Compact_int shelf_compact b off c a w hH (by omega) hcap).mono ?_
    rintro e w' ⟨rfl, n, rfl⟩
    have hle := compI_le a
    obtain ⟨h1, h2⟩ := hput (compI a ++ List.replicate (a.length - (compI a).length) 0) n #[] (by simp; omega) fun y hy => by
      rcases List.mem_append.1 hy with h | h
      · exact hI y (compI_mem.1 h)
      · rw [(List.mem_replicate.1 h).2]; exact ⟨by omega, by omega⟩
    rw [Go.Sort.grow_empty] at h1 h2
    have h3 := h1.take (compI a).length
    rw [List.take_left] at h3
    exact ⟨_, c, S, rfl, HM.mut (i := 0) rfl h2 (rSo eInt S (some ⟨b, off, none⟩) c (compI a)) (oSl h3) fun _ hb => .inl hb⟩

/-- A number put to its place among rising ones. -/
def putI (n : Int) : List Int → List Int
  | [] => [n]
  | x :: xs => if n ≤ x then (if n < x then n :: x :: xs else x :: xs) else x :: putI n xs

def put2 (o : List Int) (n : Int) : List Int := putI n o

theorem putI_mem {n y : Int} : ∀ {xs : List Int}, y ∈ putI n xs ↔ y = n ∨ y ∈ xs
  | [] => by simp [putI]
  | x :: xs => by
    rw [putI]
    split
    · split
      · simp
      · have : n = x := by omega
        subst this; simp
    · rw [List.mem_cons, putI_mem (xs := xs), List.mem_cons]
      constructor
      · rintro (h | h | h) <;> simp [h]
      · rintro (h | h | h) <;> simp [h]

theorem putI_rise {n : Int} : ∀ {xs : List Int}, xs.Pairwise (· < ·) → (putI n xs).Pairwise (· < ·)
  | [], _ => by simp [putI]
  | x :: xs, h => by
    obtain ⟨h1, h2⟩ := List.pairwise_cons.1 h
    rw [putI]
    split
    · split
      · exact List.pairwise_cons.2 ⟨fun y hy => by
          rcases List.mem_cons.1 hy with rfl | hy
          · assumption
          · have := h1 y hy; omega, h⟩
      · exact h
    · refine List.pairwise_cons.2 ⟨fun y hy => ?_, putI_rise h2⟩
      rcases putI_mem.1 hy with rfl | hy
      · omega
      · exact h1 y hy

theorem putI_len (n : Int) : ∀ xs : List Int, (putI n xs).length ≤ xs.length + 1
  | [] => by simp [putI]
  | x :: xs => by
    have := putI_len n xs
    rw [putI]
    split
    · split <;> simp
    · simp only [List.length_cons]; omega

theorem putI_drop {n : Int} {xs : List Int} {k : Nat} (hk : k < xs.length) : putI n (xs.drop k) = if n ≤ xs[k] then (if n < xs[k] then n :: xs.drop k else xs.drop k) else xs[k] :: putI n (xs.drop (k + 1)) := by
  rw [List.drop_eq_getElem_cons hk, putI]

def putsI (o ns : List Int) : List Int := ns.foldl (fun o n => putI n o) o

theorem putsI_mem {y : Int} : ∀ {ns o : List Int}, y ∈ putsI o ns ↔ y ∈ o ∨ y ∈ ns
  | [], o => by simp [putsI]
  | n :: ns, o => by
    show y ∈ putsI (putI n o) ns ↔ _
    rw [putsI_mem (ns := ns), putI_mem, List.mem_cons]
    constructor
    · rintro ((h | h) | h) <;> simp [h]
    · rintro (h | h | h) <;> simp [h]

theorem putsI_rise : ∀ {ns o : List Int}, o.Pairwise (· < ·) → (putsI o ns).Pairwise (· < ·)
  | [], _, h => h
  | n :: ns, o, h => putsI_rise (ns := ns) (o := putI n o) (putI_rise h)

theorem putsI_len : ∀ (ns o : List Int), (putsI o ns).length ≤ o.length + ns.length
  | [], o => by simp [putsI]
  | n :: ns, o => by
    have h1 := putsI_len ns (putI n o)
    have h2 := putI_len n o
    show (putsI (putI n o) ns).length ≤ _
    simp only [List.length_cons]; omega

/-- Sorted and once each: the same as put one by one. -/
theorem compI_sortI (xs : List Int) : compI (sortI xs) = putsI [] xs :=
  rise_ext (compI_rise (sortI_rise xs)) (putsI_rise List.Pairwise.nil) fun x => by rw [compI_mem, sortI_mem, putsI_mem]; simp

set_option maxRecDepth 100000 in
set_option maxHeartbeats 4000000 in
theorem spec_l00Put (A0 : Option Addr) (c0 : Nat) (a0 : (List Int)) (a1 : Int) (w : World) (h0 : Sl eInt w (Old w) A0 c0 a0) (s0 : a0.length ≤ 100000000) (s1 : I64 a1) :
    Calls Try.prog 155 #[.slice A0 a0.length c0, .int .i64 a1] w fun e w' => ∃ (A0' : Option Addr) (c0' : Nat), e = .returned (.slice A0' (put2 a0 a1).length c0') ∧ So eInt w' (Fr w w') A0' c0' (put2 a0 a1) ∧ Below w.heap.size w w' := by
  have l0 := h0.len
  unfold I64 at s1
  have HH1 := Held.start Nob w
  refine enter (n := 49) Try.func155 rfl rfl rfl fun a_2 HE3 => ?_
  refine wp_seq ?_
  refine rg ?_
  refine pl_x HE3 HH1 (wt0 rfl) (x_assign rfl) rfl rfl fun a_4 HE5 => ?_
  refine wpList_nil ?_
  clear a_2 HE3
  refine nrm ?_
  refine wp_seq ?_
  refine rg ?_
  refine pl fun K_6 hK7 => ?_
  refine st_lit (m := 0) (cs := []) (e := 2) HE5 HH1 (run_lit ts_31 HE5 (vs := []) rfl rfl (by simp [Value.cells]) rfl (by decide)) (wt0 rfl) rfl rfl fun q21 a_8 w' HE9 HH10 => hK7 _ _ ?_
  refine pl_x HE9 HH10 (wt0 rfl) (x_assign rfl) rfl rfl fun a_11 HE12 => ?_
  refine wpList_nil ?_
  clear a_4 HE5 HH1 a_8 HE9 hK7 K_6
  refine nrm ?_
  refine wp_seq ?_
  refine rg ?_
  refine pl_x HE12 HH10 (wt0 rfl) (x_assign rfl) rfl rfl fun a_13 HE14 => ?_
  refine wpList_nil ?_
  clear a_11 HE12
  refine nrm ?_
  refine wp_seq ?_
  refine wp_seq ?_
  refine rg ?_
  refine pl_x HE14 HH10 (wt0 rfl) (x_assign rfl) rfl rfl fun a_15 HE16 => ?_
  refine wpList_nil ?_
  clear a_13 HE14
  refine nrm ?_
  refine wp_block ?_
  have HH17 := Held.vecFlat (E := eInt) (xs := []) (css := []) HH10 rfl (Nat.zero_le _) (fun i x hx => by simp at hx)
  refine lp (fun m a w' => ∃ (k : Nat) (d : Bool) (o : List Int) (A_5 : Option Addr) (c_5 : Nat) (S_5 : Nat → Prop), m = a0.length - k ∧ Env 49 [(5, .slice A_5 (List.length o) c_5), (6, .bool d), (7, .int .i64 (k : Int)), (0, .slice A0 (a0.length) c0), (1, .int .i64 (a1))] a ∧ Held Nob w [rVec eInt 2 S_5 A_5 c_5 o] w' ∧ (k ≤ a0.length) ∧ (putI a1 a0 = o ++ (if d = true then a0.drop k else putI a1 (a0.drop k))) ∧ (o.length + (if d = true then 0 else 1) ≤ k + 1)) (a0.length - (0)) ?_ ?_
  · have E22 : ([]) = ([] : List Int) := by
      first | rfl | simp
    exact ⟨0, false, [], (some ⟨q21, 0, none⟩), (List.length (α := Int) []), (fun b => b = q21), rfl, HE16.sub ⟨(by rw [E22]; rfl), rfl, (lkI rfl (by first | rfl | omega | (simp []; done))), rfl, rfl, trivial⟩, ((HH17.sel [0] (by decide) rfl).to (by first | rfl | (rw [E22]; done) | (rw [E22]; rfl) | (simp only [E22]; done) | (simp only [E22]; rfl))), (by first | omega | assumption | (simp; done) | simp_all), (by simp), (by first | omega | assumption | (simp; done) | simp_all)⟩
  · rintro m a_18 w' ⟨k, d, o, A_5, c_5, S_5, rfl, HE19, HH20, p23_0, p23_1, p23_2⟩
    have ol : o.length ≤ k + 1 := by have := p23_2; split at this <;> omega
    refine wp_seq ?_
    refine wp_seq ?_
    refine rg ?_
    refine pl_x HE19 HH20 (wt0 rfl) (x_move rfl) rfl rfl fun a_21 HE22 => ?_
    refine pl_x HE22 HH20 (wt0 rfl) (x_move rfl) rfl rfl fun a_23 HE24 => ?_
    refine pl_x HE24 HH20 (wt0 rfl) (x_len Try.underlying31 rfl) rfl rfl fun a_25 HE26 => ?_
    refine pl_x HE26 HH20 (wt0 rfl) (x_lss rfl rfl) rfl rfl fun a_27 HE28 => ?_
    refine wpList_nil ?_
    clear HH10 a_15 HE16 HH17 a_18 HE19 a_21 HE22 a_23 HE24 a_25 HE26
    refine nrm ?_
    refine cnd_d HE28 rfl (fun hc24 => ?_) (fun hc24 => ?_)
    · refine wp_skip ?_
      refine nrm ?_
      refine wp_seq ?_
      refine wp_block ?_
      refine wp_seq ?_
      refine wp_seq ?_
      refine rg ?_
      refine pl_x HE28 HH20 (wt0 rfl) (x_move rfl) rfl rfl fun a_29 HE30 => ?_
      refine pl_x HE30 HH20 (wt0 rfl) (x_not rfl) rfl rfl fun a_31 HE32 => ?_
      refine pl_x HE32 HH20 (wt0 rfl) (x_move rfl) rfl rfl fun a_33 HE34 => ?_
      rcases Bool.eq_false_or_eq_true (d) with hc25 | hc25
      · refine pl_no HE34 (wtF HE34 rfl rfl rfl (not_f hc25)) rfl rfl fun a_35 HE36 => ?_
        refine pl_no HE36 (wtF HE36 rfl rfl rfl (not_f hc25)) rfl rfl fun a_37 HE38 => ?_
        refine pl_no HE38 (wtF HE38 rfl rfl rfl (not_f hc25)) rfl rfl fun a_39 HE40 => ?_
        refine pl_no HE40 (wtF HE40 rfl rfl rfl (not_f hc25)) rfl rfl fun a_41 HE42 => ?_
        refine pl_no HE42 (wtF HE42 rfl rfl rfl (not_f hc25)) rfl rfl fun a_43 HE44 => ?_
        refine pl_no HE44 (wtF HE44 rfl rfl rfl (not_f hc25)) rfl rfl fun a_45 HE46 => ?_
        refine pl_x HE46 HH20 (wt0 rfl) (x_pickF rfl (not_f hc25) rfl) rfl rfl fun a_47 HE48 => ?_
        refine wpList_nil ?_
        clear a_27 HE28 a_29 HE30 a_31 HE32 a_33 HE34 a_35 HE36 a_37 HE38 a_39 HE40 a_41 HE42 a_43 HE44 a_45 HE46
        refine nrm ?_
        refine cndF HE48 rfl rfl ?_
        refine wp_skip ?_
        refine nrm ?_
        refine rg ?_
        refine pl_x HE48 HH20 (wt0 rfl) (x_move rfl) rfl rfl fun a_49 HE50 => ?_
        refine pl_x HE50 HH20 (wt0 rfl) (x_move rfl) rfl rfl fun a_51 HE52 => ?_
        refine pl_x HE52 HH20 (wt0 rfl) (x_move rfl) rfl rfl fun a_53 HE54 => ?_
        have ke26 : k < a0.length := by omega
        obtain ⟨be26, fe26, ese26, Ae26, Re26, De26⟩ := el_old h0 ke26
        obtain ⟨e26, xe26⟩ : ∃ x_, x_ = a0[k] := ⟨_, rfl⟩
        rw [← xe26] at Re26
        have Qe26 := Re26
        obtain ⟨rfl, ie26⟩ := Re26
        have je26 := ie26; unfold I64 at je26
        refine pl_x HE54 HH20 (wt0 rfl) (x_indexAddr ts_31 rfl rfl Ae26 rfl ke26) rfl rfl fun a_55 HE56 => ?_
        refine pl_x HE56 HH20 (wt0 rfl) (x_load1 tv_2 rfl (c_old (De26 0 _ rfl))) rfl rfl fun a_57 HE58 => ?_
        refine pl fun K_59 hK60 => ?_
        refine st_lit (m := 1) (cs := [.int .i64 (e26)]) (e := 2) HE58 HH20 (run_lit ts_31 HE58 (vs := [.int .i64 (e26)]) rfl rfl (by simp [Value.cells]) rfl (by decide)) (wt0 rfl) rfl rfl fun q27 a_61 w' HE62 HH63 => hK60 _ _ ?_
        refine pl fun K_64 hK65 => ?_
        refine st_app1F e26 HE62 HH63 ts_31 [1, 0] (by decide) rfl (fun _ => (oI (by exact ⟨by omega, by omega⟩))) rfl rfl (by simp [Value.oneCell']) (by unfold maxLen; first | omega | (simp; done) | (simp; omega)) (by first | omega | (simp; done) | (simp; omega)) (wt0 rfl) rfl fun A28 c29 S30 a_66 w' HE67 HH68 => hK65 _ _ ?_
        refine pl_x HE67 HH68 (wt0 rfl) (x_assign rfl) rfl rfl fun a_69 HE70 => ?_
        refine wpList_nil ?_
        clear a_47 HE48 a_49 HE50 a_51 HE52 a_53 HE54 a_55 HE56 a_57 HE58 HH20 K_59 hK60 a_61 HE62 HH63 a_66 HE67 hK65 K_64
        refine blk_n ?_
        refine nrm ?_
        refine rg ?_
        refine pl_x HE70 HH68 (wt0 rfl) (x_move rfl) rfl rfl fun a_71 HE72 => ?_
        refine pl_x HE72 HH68 (wt0 rfl) (x_add rfl rfl (by exact ⟨by omega, by omega⟩)) rfl rfl fun a_73 HE74 => ?_
        refine pl_x HE74 HH68 (wt0 rfl) (x_assign rfl) rfl rfl fun a_75 HE76 => ?_
        refine wpList_nil ?_
        clear a_69 HE70 a_71 HE72 a_73 HE74
        have E31 : ((o ++ [e26])) = (o ++ [e26]) := by
          first | rfl | simp
        exact nrm ⟨a0.length - (k + 1), (by omega), k + 1, d, (o ++ [e26]), A28, c29, S30, rfl, HE76.sub ⟨(by rw [E31]; rfl), rfl, (lkI rfl (by first | rfl | omega | (simp [p23_0, p23_1, p23_2, hc24, hc25, xe26]; done))), rfl, rfl, trivial⟩, ((HH68.sel [0] (by decide) rfl).to (by first | rfl | (rw [E31]; done) | (rw [E31]; rfl) | (simp only [E31]; done) | (simp only [E31]; rfl))), (by first | omega | assumption | (simp; done) | simp_all), (by rw [p23_1]; first | (rw [if_pos ‹_›, if_pos ‹_›, List.drop_eq_getElem_cons (by omega)]; simp [xe26]; done) | (simp only [Bool.false_eq_true, if_false, if_true, p23_0, p23_1, p23_2, hc24, hc25, xe26]; rw [putI_drop (by omega), ← xe26]; grind [List.drop_eq_getElem_cons])), (by have hq := p23_2; simp only [List.length_append, List.length_cons, List.length_nil]; grind)⟩
      · refine pl_x HE34 HH20 (wtT HE34 rfl rfl rfl (not_t hc25)) (x_move rfl) rfl rfl fun a_77 HE78 => ?_
        refine pl_x HE78 HH20 (wtT HE78 rfl rfl rfl (not_t hc25)) (x_move rfl) rfl rfl fun a_79 HE80 => ?_
        have ke32 : k < a0.length := by omega
        obtain ⟨be32, fe32, ese32, Ae32, Re32, De32⟩ := el_old h0 ke32
        obtain ⟨e32, xe32⟩ : ∃ x_, x_ = a0[k] := ⟨_, rfl⟩
        rw [← xe32] at Re32
        have Qe32 := Re32
        obtain ⟨rfl, ie32⟩ := Re32
        have je32 := ie32; unfold I64 at je32
        refine pl_x HE80 HH20 (wtT HE80 rfl rfl rfl (not_t hc25)) (x_indexAddr ts_31 rfl rfl Ae32 rfl ke32) rfl rfl fun a_81 HE82 => ?_
        refine pl_x HE82 HH20 (wtT HE82 rfl rfl rfl (not_t hc25)) (x_load1 tv_2 rfl (c_old (De32 0 _ rfl))) rfl rfl fun a_83 HE84 => ?_
        refine pl_x HE84 HH20 (wtT HE84 rfl rfl rfl (not_t hc25)) (x_move rfl) rfl rfl fun a_85 HE86 => ?_
        refine pl_x HE86 HH20 (wtT HE86 rfl rfl rfl (not_t hc25)) (x_geq rfl rfl) rfl rfl fun a_87 HE88 => ?_
        refine pl_x HE88 HH20 (wt0 rfl) (x_pickT rfl (not_t hc25) rfl) rfl rfl fun a_89 HE90 => ?_
        refine wpList_nil ?_
        clear a_27 HE28 a_29 HE30 a_31 HE32 a_33 HE34 a_77 HE78 a_79 HE80 a_81 HE82 a_83 HE84 a_85 HE86 a_87 HE88
        refine nrm ?_
        refine cnd_d HE90 rfl (fun hc33 => ?_) (fun hc33 => ?_)
        · refine wp_seq ?_
          refine rg ?_
          refine pl_x HE90 HH20 (wt0 rfl) (x_assign rfl) rfl rfl fun a_91 HE92 => ?_
          refine wpList_nil ?_
          clear a_89 HE90
          refine nrm ?_
          refine wp_seq ?_
          refine rg ?_
          refine pl_x HE92 HH20 (wt0 rfl) (x_move rfl) rfl rfl fun a_93 HE94 => ?_
          refine pl_x HE94 HH20 (wt0 rfl) (x_move rfl) rfl rfl fun a_95 HE96 => ?_
          refine pl_x HE96 HH20 (wt0 rfl) (x_indexAddr ts_31 rfl rfl Ae32 rfl ke32) rfl rfl fun a_97 HE98 => ?_
          refine pl_x HE98 HH20 (wt0 rfl) (x_load1 tv_2 rfl (c_old (De32 0 _ rfl))) rfl rfl fun a_99 HE100 => ?_
          refine pl_x HE100 HH20 (wt0 rfl) (x_move rfl) rfl rfl fun a_101 HE102 => ?_
          refine pl_x HE102 HH20 (wt0 rfl) (x_gtr rfl rfl) rfl rfl fun a_103 HE104 => ?_
          refine wpList_nil ?_
          clear a_91 HE92 a_93 HE94 a_95 HE96 a_97 HE98 a_99 HE100 a_101 HE102
          refine nrm ?_
          refine cnd_d HE104 rfl (fun hc34 => ?_) (fun hc34 => ?_)
          · refine rg ?_
            refine pl_x HE104 HH20 (wt0 rfl) (x_move rfl) rfl rfl fun a_105 HE106 => ?_
            refine pl_x HE106 HH20 (wt0 rfl) (x_move rfl) rfl rfl fun a_107 HE108 => ?_
            refine pl fun K_109 hK110 => ?_
            refine st_lit (m := 1) (cs := [.int .i64 (a1)]) (e := 2) HE108 HH20 (run_lit ts_31 HE108 (vs := [.int .i64 (a1)]) rfl rfl (by simp [Value.cells]) rfl (by decide)) (wt0 rfl) rfl rfl fun q35 a_111 w' HE112 HH113 => hK110 _ _ ?_
            refine pl fun K_114 hK115 => ?_
            refine st_app1F a1 HE112 HH113 ts_31 [1, 0] (by decide) rfl (fun _ => (oI (by exact ⟨by omega, by omega⟩))) rfl rfl (by simp [Value.oneCell']) (by unfold maxLen; first | omega | (simp; done) | (simp; omega)) (by first | omega | (simp; done) | (simp; omega)) (wt0 rfl) rfl fun A36 c37 S38 a_116 w' HE117 HH118 => hK115 _ _ ?_
            refine pl_x HE117 HH118 (wt0 rfl) (x_assign rfl) rfl rfl fun a_119 HE120 => ?_
            refine wpList_nil ?_
            clear a_103 HE104 a_105 HE106 a_107 HE108 HH20 K_109 hK110 a_111 HE112 HH113 a_116 HE117 hK115 K_114
            refine nrm ?_
            refine rg ?_
            refine pl_x HE120 HH118 (wt0 rfl) (x_move rfl) rfl rfl fun a_121 HE122 => ?_
            refine pl_x HE122 HH118 (wt0 rfl) (x_move rfl) rfl rfl fun a_123 HE124 => ?_
            refine pl_x HE124 HH118 (wt0 rfl) (x_move rfl) rfl rfl fun a_125 HE126 => ?_
            refine pl_x HE126 HH118 (wt0 rfl) (x_indexAddr ts_31 rfl rfl Ae32 rfl ke32) rfl rfl fun a_127 HE128 => ?_
            refine pl_x HE128 HH118 (wt0 rfl) (x_load1 tv_2 rfl (c_old (De32 0 _ rfl))) rfl rfl fun a_129 HE130 => ?_
            refine pl fun K_131 hK132 => ?_
            refine st_lit (m := 1) (cs := [.int .i64 (e32)]) (e := 2) HE130 HH118 (run_lit ts_31 HE130 (vs := [.int .i64 (e32)]) rfl rfl (by simp [Value.cells]) rfl (by decide)) (wt0 rfl) rfl rfl fun q39 a_133 w' HE134 HH135 => hK132 _ _ ?_
            refine pl fun K_136 hK137 => ?_
            refine st_app1F e32 HE134 HH135 ts_31 [1, 0] (by decide) rfl (fun _ => (oI (by exact ⟨by omega, by omega⟩))) rfl rfl (by simp [Value.oneCell']) (by unfold maxLen; first | omega | (simp; done) | (simp; omega)) (by first | omega | (simp; done) | (simp; omega)) (wt0 rfl) rfl fun A40 c41 S42 a_138 w' HE139 HH140 => hK137 _ _ ?_
            refine pl_x HE139 HH140 (wt0 rfl) (x_assign rfl) rfl rfl fun a_141 HE142 => ?_
            refine wpList_nil ?_
            clear a_119 HE120 a_121 HE122 a_123 HE124 a_125 HE126 a_127 HE128 a_129 HE130 HH118 K_131 hK132 a_133 HE134 HH135 a_138 HE139 hK137 K_136
            refine blk_n ?_
            refine nrm ?_
            refine rg ?_
            refine pl_x HE142 HH140 (wt0 rfl) (x_move rfl) rfl rfl fun a_143 HE144 => ?_
            refine pl_x HE144 HH140 (wt0 rfl) (x_add rfl rfl (by exact ⟨by omega, by omega⟩)) rfl rfl fun a_145 HE146 => ?_
            refine pl_x HE146 HH140 (wt0 rfl) (x_assign rfl) rfl rfl fun a_147 HE148 => ?_
            refine wpList_nil ?_
            clear a_141 HE142 a_143 HE144 a_145 HE146
            have E43 : (((o ++ [a1]) ++ [e32])) = ((o ++ [a1]) ++ [e32]) := by
              first | rfl | simp
            exact nrm ⟨a0.length - (k + 1), (by omega), k + 1, true, ((o ++ [a1]) ++ [e32]), A40, c41, S42, rfl, HE148.sub ⟨(by rw [E43]; rfl), rfl, (lkI rfl (by first | rfl | omega | (simp [p23_0, p23_1, p23_2, hc24, hc25, xe32, hc33, hc34]; done))), rfl, rfl, trivial⟩, ((HH140.sel [0] (by decide) rfl).to (by first | rfl | (rw [E43]; done) | (rw [E43]; rfl) | (simp only [E43]; done) | (simp only [E43]; rfl))), (by first | omega | assumption | (simp; done) | simp_all), (by rw [p23_1]; first | (rw [if_pos ‹_›, if_pos ‹_›, List.drop_eq_getElem_cons (by omega)]; simp [xe32]; done) | (simp only [Bool.false_eq_true, if_false, if_true, p23_0, p23_1, p23_2, hc24, hc25, xe32, hc33, hc34]; rw [putI_drop (by omega), ← xe32]; grind [List.drop_eq_getElem_cons])), (by have hq := p23_2; simp only [List.length_append, List.length_cons, List.length_nil]; grind)⟩
          · refine wp_skip ?_
            refine nrm ?_
            refine rg ?_
            refine pl_x HE104 HH20 (wt0 rfl) (x_move rfl) rfl rfl fun a_149 HE150 => ?_
            refine pl_x HE150 HH20 (wt0 rfl) (x_move rfl) rfl rfl fun a_151 HE152 => ?_
            refine pl_x HE152 HH20 (wt0 rfl) (x_move rfl) rfl rfl fun a_153 HE154 => ?_
            refine pl_x HE154 HH20 (wt0 rfl) (x_indexAddr ts_31 rfl rfl Ae32 rfl ke32) rfl rfl fun a_155 HE156 => ?_
            refine pl_x HE156 HH20 (wt0 rfl) (x_load1 tv_2 rfl (c_old (De32 0 _ rfl))) rfl rfl fun a_157 HE158 => ?_
            refine pl fun K_159 hK160 => ?_
            refine st_lit (m := 1) (cs := [.int .i64 (e32)]) (e := 2) HE158 HH20 (run_lit ts_31 HE158 (vs := [.int .i64 (e32)]) rfl rfl (by simp [Value.cells]) rfl (by decide)) (wt0 rfl) rfl rfl fun q44 a_161 w' HE162 HH163 => hK160 _ _ ?_
            refine pl fun K_164 hK165 => ?_
            refine st_app1F e32 HE162 HH163 ts_31 [1, 0] (by decide) rfl (fun _ => (oI (by exact ⟨by omega, by omega⟩))) rfl rfl (by simp [Value.oneCell']) (by unfold maxLen; first | omega | (simp; done) | (simp; omega)) (by first | omega | (simp; done) | (simp; omega)) (wt0 rfl) rfl fun A45 c46 S47 a_166 w' HE167 HH168 => hK165 _ _ ?_
            refine pl_x HE167 HH168 (wt0 rfl) (x_assign rfl) rfl rfl fun a_169 HE170 => ?_
            refine wpList_nil ?_
            clear a_103 HE104 a_149 HE150 a_151 HE152 a_153 HE154 a_155 HE156 a_157 HE158 HH20 K_159 hK160 a_161 HE162 HH163 a_166 HE167 hK165 K_164
            refine blk_n ?_
            refine nrm ?_
            refine rg ?_
            refine pl_x HE170 HH168 (wt0 rfl) (x_move rfl) rfl rfl fun a_171 HE172 => ?_
            refine pl_x HE172 HH168 (wt0 rfl) (x_add rfl rfl (by exact ⟨by omega, by omega⟩)) rfl rfl fun a_173 HE174 => ?_
            refine pl_x HE174 HH168 (wt0 rfl) (x_assign rfl) rfl rfl fun a_175 HE176 => ?_
            refine wpList_nil ?_
            clear a_169 HE170 a_171 HE172 a_173 HE174
            have E48 : ((o ++ [e32])) = (o ++ [e32]) := by
              first | rfl | simp
            exact nrm ⟨a0.length - (k + 1), (by omega), k + 1, true, (o ++ [e32]), A45, c46, S47, rfl, HE176.sub ⟨(by rw [E48]; rfl), rfl, (lkI rfl (by first | rfl | omega | (simp [p23_0, p23_1, p23_2, hc24, hc25, xe32, hc33, hc34]; done))), rfl, rfl, trivial⟩, ((HH168.sel [0] (by decide) rfl).to (by first | rfl | (rw [E48]; done) | (rw [E48]; rfl) | (simp only [E48]; done) | (simp only [E48]; rfl))), (by first | omega | assumption | (simp; done) | simp_all), (by rw [p23_1]; first | (rw [if_pos ‹_›, if_pos ‹_›, List.drop_eq_getElem_cons (by omega)]; simp [xe32]; done) | (simp only [Bool.false_eq_true, if_false, if_true, p23_0, p23_1, p23_2, hc24, hc25, xe32, hc33, hc34]; rw [putI_drop (by omega), ← xe32]; grind [List.drop_eq_getElem_cons])), (by have hq := p23_2; simp only [List.length_append, List.length_cons, List.length_nil]; grind)⟩
        · refine wp_skip ?_
          refine nrm ?_
          refine rg ?_
          refine pl_x HE90 HH20 (wt0 rfl) (x_move rfl) rfl rfl fun a_177 HE178 => ?_
          refine pl_x HE178 HH20 (wt0 rfl) (x_move rfl) rfl rfl fun a_179 HE180 => ?_
          refine pl_x HE180 HH20 (wt0 rfl) (x_move rfl) rfl rfl fun a_181 HE182 => ?_
          refine pl_x HE182 HH20 (wt0 rfl) (x_indexAddr ts_31 rfl rfl Ae32 rfl ke32) rfl rfl fun a_183 HE184 => ?_
          refine pl_x HE184 HH20 (wt0 rfl) (x_load1 tv_2 rfl (c_old (De32 0 _ rfl))) rfl rfl fun a_185 HE186 => ?_
          refine pl fun K_187 hK188 => ?_
          refine st_lit (m := 1) (cs := [.int .i64 (e32)]) (e := 2) HE186 HH20 (run_lit ts_31 HE186 (vs := [.int .i64 (e32)]) rfl rfl (by simp [Value.cells]) rfl (by decide)) (wt0 rfl) rfl rfl fun q49 a_189 w' HE190 HH191 => hK188 _ _ ?_
          refine pl fun K_192 hK193 => ?_
          refine st_app1F e32 HE190 HH191 ts_31 [1, 0] (by decide) rfl (fun _ => (oI (by exact ⟨by omega, by omega⟩))) rfl rfl (by simp [Value.oneCell']) (by unfold maxLen; first | omega | (simp; done) | (simp; omega)) (by first | omega | (simp; done) | (simp; omega)) (wt0 rfl) rfl fun A50 c51 S52 a_194 w' HE195 HH196 => hK193 _ _ ?_
          refine pl_x HE195 HH196 (wt0 rfl) (x_assign rfl) rfl rfl fun a_197 HE198 => ?_
          refine wpList_nil ?_
          clear a_89 HE90 a_177 HE178 a_179 HE180 a_181 HE182 a_183 HE184 a_185 HE186 HH20 K_187 hK188 a_189 HE190 HH191 a_194 HE195 hK193 K_192
          refine blk_n ?_
          refine nrm ?_
          refine rg ?_
          refine pl_x HE198 HH196 (wt0 rfl) (x_move rfl) rfl rfl fun a_199 HE200 => ?_
          refine pl_x HE200 HH196 (wt0 rfl) (x_add rfl rfl (by exact ⟨by omega, by omega⟩)) rfl rfl fun a_201 HE202 => ?_
          refine pl_x HE202 HH196 (wt0 rfl) (x_assign rfl) rfl rfl fun a_203 HE204 => ?_
          refine wpList_nil ?_
          clear a_197 HE198 a_199 HE200 a_201 HE202
          have E53 : ((o ++ [e32])) = (o ++ [e32]) := by
            first | rfl | simp
          exact nrm ⟨a0.length - (k + 1), (by omega), k + 1, d, (o ++ [e32]), A50, c51, S52, rfl, HE204.sub ⟨(by rw [E53]; rfl), rfl, (lkI rfl (by first | rfl | omega | (simp [p23_0, p23_1, p23_2, hc24, hc25, xe32, hc33]; done))), rfl, rfl, trivial⟩, ((HH196.sel [0] (by decide) rfl).to (by first | rfl | (rw [E53]; done) | (rw [E53]; rfl) | (simp only [E53]; done) | (simp only [E53]; rfl))), (by first | omega | assumption | (simp; done) | simp_all), (by rw [p23_1]; first | (rw [if_pos ‹_›, if_pos ‹_›, List.drop_eq_getElem_cons (by omega)]; simp [xe32]; done) | (simp only [Bool.false_eq_true, if_false, if_true, p23_0, p23_1, p23_2, hc24, hc25, xe32, hc33]; rw [putI_drop (by omega), ← xe32]; grind [List.drop_eq_getElem_cons])), (by have hq := p23_2; simp only [List.length_append, List.length_cons, List.length_nil]; grind)⟩
    · refine wp_exit ?_
      refine (thn_exit (thn_exit (blk_hit ?_)))
      refine nrm ?_
      refine wp_seq ?_
      refine wp_seq ?_
      refine rg ?_
      refine pl_x HE28 HH20 (wt0 rfl) (x_move rfl) rfl rfl fun a_205 HE206 => ?_
      refine pl_x HE206 HH20 (wt0 rfl) (x_not rfl) rfl rfl fun a_207 HE208 => ?_
      refine wpList_nil ?_
      clear a_27 HE28 a_205 HE206
      refine nrm ?_
      refine cnd_nb HE208 rfl (fun hc54 => ?_) (fun hc54 => ?_)
      · refine rg ?_
        refine pl_x HE208 HH20 (wt0 rfl) (x_move rfl) rfl rfl fun a_209 HE210 => ?_
        refine pl_x HE210 HH20 (wt0 rfl) (x_move rfl) rfl rfl fun a_211 HE212 => ?_
        refine pl fun K_213 hK214 => ?_
        refine st_lit (m := 1) (cs := [.int .i64 (a1)]) (e := 2) HE212 HH20 (run_lit ts_31 HE212 (vs := [.int .i64 (a1)]) rfl rfl (by simp [Value.cells]) rfl (by decide)) (wt0 rfl) rfl rfl fun q55 a_215 w' HE216 HH217 => hK214 _ _ ?_
        refine pl fun K_218 hK219 => ?_
        refine st_app1F a1 HE216 HH217 ts_31 [1, 0] (by decide) rfl (fun _ => (oI (by exact ⟨by omega, by omega⟩))) rfl rfl (by simp [Value.oneCell']) (by unfold maxLen; first | omega | (simp; done) | (simp; omega)) (by first | omega | (simp; done) | (simp; omega)) (wt0 rfl) rfl fun A56 c57 S58 a_220 w' HE221 HH222 => hK219 _ _ ?_
        refine pl_x HE221 HH222 (wt0 rfl) (x_assign rfl) rfl rfl fun a_223 HE224 => ?_
        refine wpList_nil ?_
        clear a_207 HE208 a_209 HE210 a_211 HE212 HH20 K_213 hK214 a_215 HE216 HH217 a_220 HE221 hK219 K_218
        refine nrm ?_
        refine wp_seq ?_
        refine rg ?_
        refine pl_x HE224 HH222 (wt0 rfl) (x_move rfl) rfl rfl fun a_225 HE226 => ?_
        refine pl_x HE226 HH222 (wt0 rfl) (x_assign rfl) rfl rfl fun a_227 HE228 => ?_
        refine wpList_nil ?_
        clear a_223 HE224 a_225 HE226
        refine nrm ?_
        refine wp_ret ?_
        refine ret1 HE228 rfl (rv_tmp rfl) ?_
        have HH229 := HH222.vecSo
        have hF : (put2 a0 a1) = (o ++ [a1]) := by
          unfold put2; rw [p23_1, List.drop_of_length_le (by omega)]; simp [p23_0, p23_1, p23_2, hc24, hc54, putI]
        exact ⟨A56, c57, by first | (rw [hF] <;> rfl) | rfl | (rw [hF]; simp only [Ending.returned.injEq, Value.slice.injEq, true_and, and_true]; first | omega | (simp; done)) | (rw [hF]; simp; omega), by rw [hF]; exact (HH229.so (i := 0) rfl), HH229.below⟩
      · refine wp_skip ?_
        refine nrm ?_
        refine wp_seq ?_
        refine rg ?_
        refine pl_x HE208 HH20 (wt0 rfl) (x_move rfl) rfl rfl fun a_230 HE231 => ?_
        refine pl_x HE231 HH20 (wt0 rfl) (x_assign rfl) rfl rfl fun a_232 HE233 => ?_
        refine wpList_nil ?_
        clear a_207 HE208 a_230 HE231
        refine nrm ?_
        refine wp_ret ?_
        refine ret1 HE233 rfl (rv_tmp rfl) ?_
        have HH234 := HH20.vecSo
        have hF : (put2 a0 a1) = o := by
          unfold put2; rw [p23_1, List.drop_of_length_le (by omega)]; simp [p23_0, p23_1, p23_2, hc24, hc54, putI]
        exact ⟨A_5, c_5, by first | (rw [hF] <;> rfl) | rfl | (rw [hF]; simp only [Ending.returned.injEq, Value.slice.injEq, true_and, and_true]; first | omega | (simp; done)) | (rw [hF]; simp; omega), by rw [hF]; exact (HH234.so (i := 0) rfl), HH234.below⟩

theorem sq_le {d n : Int} (hd : 0 ≤ d) (hn : n ≤ 999999) (h : d * d ≤ n) : d ≤ 999 := by
  refine Classical.byContradiction fun hc => ?_
  have : 1000 * 1000 ≤ d * d := Int.mul_le_mul (by omega) (by omega) (by omega) hd
  omega

theorem sq_bd {d : Int} (hd : 0 ≤ d ∧ d ≤ 2000) : 0 ≤ d * d ∧ d * d ≤ 4000000 :=
  ⟨Int.mul_nonneg hd.1 hd.1, Int.mul_le_mul hd.2 hd.2 hd.1 (by omega)⟩

theorem dv_lt {n p : Int} (h : n % p = 0) (hp : 2 ≤ p) (hn : 1 ≤ n) : 1 ≤ n / p ∧ n / p < n := by
  have h1 := Int.emod_def n p
  rw [h] at h1
  have h2 : p * (n / p) = n := by omega
  have h3 : 0 < n / p := by
    refine Classical.byContradiction fun hc => ?_
    have : p * (n / p) ≤ 0 := Int.mul_nonpos_of_nonneg_of_nonpos (by omega) (by omega)
    omega
  have h4 : 2 * (n / p) ≤ p * (n / p) := Int.mul_le_mul_of_nonneg_right hp (by omega)
  omega

/-- n without the divisor p. -/
def dv (n p : Int) : Int := if h : n % p = 0 ∧ 2 ≤ p ∧ 1 ≤ n then dv (n / p) p else n
termination_by n.toNat
decreasing_by
  have := dv_lt h.1 h.2.1 h.2.2
  omega

theorem dv_step {n p : Int} (h : n % p = 0) (hp : 2 ≤ p) (hn : 1 ≤ n) : dv n p = dv (n / p) p := by
  rw [dv, dif_pos ⟨h, hp, hn⟩]

theorem dv_stop {n p : Int} (h : ¬ n % p = 0) : dv n p = n := by
  rw [dv, dif_neg fun hq => h hq.1]

def prF : Nat → Int → Int → List Int
  | 0, n, _ => if 1 < n then [n] else []
  | f + 1, n, p => if p * p ≤ n then (if n % p = 0 then p :: prF f (dv n p) (p + 1) else prF f n (p + 1)) else (if 1 < n then [n] else [])

def primesI (n : Int) : List Int := prF 1000 n 2

theorem prF_eq (n p : Int) {f g : Nat} (hf : f = g + 1) : prF f n p = if p * p ≤ n then (if n % p = 0 then p :: prF g (dv n p) (p + 1) else prF g n (p + 1)) else (if 1 < n then [n] else []) := by subst hf; rfl

theorem prF_len : ∀ (f : Nat) (n p : Int), (prF f n p).length ≤ f + 1
  | 0, n, p => by rw [prF]; split <;> simp
  | f + 1, n, p => by
    rw [prF]
    split
    · split
      · have := prF_len f (dv n p) (p + 1)
        simp only [List.length_cons]; omega
      · have := prF_len f n (p + 1)
        omega
    · split <;> simp

theorem primesI_len (n : Int) : (primesI n).length ≤ 1001 := prF_len 1000 n 2

theorem putI_twice (p : Int) : ∀ l : List Int, putI p (putI p l) = putI p l
  | [] => by simp [putI]
  | x :: xs => by
    have ih := putI_twice p xs
    by_cases h1 : p ≤ x
    · by_cases h2 : p < x
      · simp [putI, h1, h2]
      · simp [putI, h1, h2]
    · simp [putI, h1, ih]

theorem primes_round {l q : List Int} {n m p : Int} {f g : Nat} (hf : f = g + 1) (h1 : p * p ≤ n) (h2 : dv n p = dv m p) (h3 : ¬ m % p = 0) (h4 : (m = n ∧ q = l) ∨ (n % p = 0 ∧ q = putI p l)) : putsI l (prF f n p) = putsI q (prF g m (p + 1)) := by
  rw [prF_eq n p hf, if_pos h1]
  rcases h4 with ⟨rfl, rfl⟩ | ⟨h5, rfl⟩
  · rw [if_neg h3]
  · rw [if_pos h5, h2, dv_stop h3]
    rfl

theorem primes_put {l q : List Int} {n m p : Int} (hm : m % p = 0) (h4 : (m = n ∧ q = l) ∨ (n % p = 0 ∧ q = putI p l)) : n % p = 0 ∧ put2 q p = putI p l := by
  rcases h4 with ⟨rfl, rfl⟩ | ⟨h5, rfl⟩
  · exact ⟨hm, rfl⟩
  · exact ⟨h5, putI_twice p l⟩

theorem primes_roundA {l : List Int} {n m p : Int} {f g : Nat} (hf : f = g + 1) (h1 : p * p ≤ n) (h5 : n % p = 0) (h2 : dv n p = dv m p) (h3 : ¬ m % p = 0) : l ++ prF f n p = (l ++ [p]) ++ prF g m (p + 1) := by
  rw [prF_eq n p hf, if_pos h1, if_pos h5, h2, dv_stop h3]; simp

theorem primes_roundB {l : List Int} {n p : Int} {f g : Nat} (hf : f = g + 1) (h1 : p * p ≤ n) (h5 : ¬ n % p = 0) : l ++ prF f n p = l ++ prF g n (p + 1) := by
  rw [prF_eq n p hf, if_pos h1, if_neg h5]

theorem primes_end {n p : Int} {f : Nat} (h1 : ¬ p * p ≤ n) : prF f n p = if 1 < n then [n] else [] := by
  cases f with
  | zero => rfl
  | succ f => rw [prF, if_neg h1]

def putsP (l : List Int) (n : Int) : List Int := putsI l (primesI n)

theorem putsP_len (l : List Int) (n : Int) : (putsP l n).length ≤ l.length + 1001 := by
  have h1 := putsI_len (primesI n) l
  have h2 := primesI_len n
  unfold putsP
  omega

def fpL (fs : List tFraction) : List Int := fs.flatMap fun f => primesI f.1 ++ primesI f.2

theorem fpL_snoc (fs : List tFraction) (f : tFraction) : fpL (fs ++ [f]) = fpL fs ++ (primesI f.1 ++ primesI f.2) := by simp [fpL]

theorem fpL_len : ∀ fs : List tFraction, (fpL fs).length ≤ 2002 * fs.length
  | [] => by simp [fpL]
  | f :: fs => by
    have h1 := fpL_len fs
    have h2 := primesI_len f.1
    have h3 := primesI_len f.2
    have e : fpL (f :: fs) = primesI f.1 ++ primesI f.2 ++ fpL fs := by simp [fpL]
    rw [e]
    simp only [List.length_append, List.length_cons]
    omega

theorem putsI_app (o a b : List Int) : putsI o (a ++ b) = putsI (putsI o a) b := by simp [putsI, List.foldl_append]

def fracPrimes (l : List tFraction) : List Int × Int := if validFrac l = true then (putsI [] (fpL l), 0) else ([], 1)

theorem fracPrimes_ct (l : List tFraction) : (ct_L (fracPrimes l).1 : Int) ≤ 1000000000 := by
  rw [ct_L_len]
  unfold fracPrimes
  split
  · rename_i h
    have h1 := (validFrac_facts h).1
    have h2 := putsI_len (fpL l) []
    have h3 := fpL_len l
    simp only [List.length_nil, Nat.zero_add] at h2
    simp only; omega
  · simp

set_option maxRecDepth 100000 in
set_option maxHeartbeats 4000000 in
theorem impl_primesOf (a0 : Int) (w : World) (s0 : 1 ≤ a0 ∧ a0 ≤ 999999) :
    Calls Try.prog 163 #[.int .i64 a0] w fun e w' => ∃ (A0' : Option Addr) (c0' : Nat), e = .returned (.slice A0' (primesI a0).length c0') ∧ So eInt w' (Fr w w') A0' c0' (primesI a0) ∧ Below w.heap.size w w' := by
  have HH1 := Held.start Nob w
  refine enter (n := 35) Try.func163 rfl rfl rfl fun a_2 HE3 => ?_
  refine wp_seq ?_
  refine rg ?_
  refine pl_x HE3 HH1 (wt0 rfl) (x_assign rfl) rfl rfl fun a_4 HE5 => ?_
  refine wpList_nil ?_
  clear a_2 HE3
  refine nrm ?_
  refine wp_seq ?_
  refine rg ?_
  refine pl fun K_6 hK7 => ?_
  refine st_lit (m := 0) (cs := []) (e := 2) HE5 HH1 (run_lit ts_31 HE5 (vs := []) rfl rfl (by simp [Value.cells]) rfl (by decide)) (wt0 rfl) rfl rfl fun q21 a_8 w' HE9 HH10 => hK7 _ _ ?_
  refine pl_x HE9 HH10 (wt0 rfl) (x_assign rfl) rfl rfl fun a_11 HE12 => ?_
  refine wpList_nil ?_
  clear a_4 HE5 HH1 a_8 HE9 hK7 K_6
  refine nrm ?_
  refine wp_seq ?_
  refine wp_seq ?_
  refine rg ?_
  refine pl_x HE12 HH10 (wt0 rfl) (x_assign rfl) rfl rfl fun a_13 HE14 => ?_
  refine wpList_nil ?_
  clear a_11 HE12
  refine nrm ?_
  refine wp_block ?_
  have HH15 := Held.vecFlat (E := eInt) (xs := []) (css := []) HH10 rfl (Nat.zero_le _) (fun i x hx => by simp at hx)
  refine lp (fun m a w' => ∃ (k : Nat) (n : Int) (l : List Int) (A_3 : Option Addr) (c_3 : Nat) (S_3 : Nat → Prop), m = 1000 - k ∧ Env 35 [(0, .int .i64 n), (3, .slice A_3 (List.length l) c_3), (4, .int .i64 ((k : Int) + 2))] a ∧ Held Nob w [rVec eInt 2 S_3 A_3 c_3 l] w' ∧ (k ≤ 998) ∧ (1 ≤ n ∧ n ≤ 999999) ∧ (primesI a0 = l ++ prF (1000 - k) n ((k : Int) + 2)) ∧ (l.length ≤ 0 + k)) (1000 - (0)) ?_ ?_
  · have E22 : ([]) = ([] : List Int) := by
      first | rfl | simp
    exact ⟨0, a0, [], (some ⟨q21, 0, none⟩), (List.length (α := Int) []), (fun b => b = q21), rfl, HE14.sub ⟨rfl, (by rw [E22]; rfl), (lkI rfl (by first | rfl | omega | (simp []; done))), trivial⟩, ((HH15.sel [0] (by decide) rfl).to (by first | rfl | (rw [E22]; done) | (rw [E22]; rfl) | (simp only [E22]; done) | (simp only [E22]; rfl))), (by first | omega | assumption | (simp; done) | simp_all), (by first | omega | assumption | (simp; done) | simp_all), (by unfold primesI; simp), (by first | omega | assumption | (simp; done) | simp_all)⟩
  · rintro m a_16 w' ⟨k, n, l, A_3, c_3, S_3, rfl, HE17, HH18, p23_0, p23_1, p23_2, p23_3⟩
    have hO1 := p23_1
    have hO2 := p23_2
    have hsq := sq_bd (d := (k : Int) + 2) (by omega)
    refine wp_seq ?_
    refine wp_seq ?_
    refine rg ?_
    refine pl_x HE17 HH18 (wt0 rfl) (x_move rfl) rfl rfl fun a_19 HE20 => ?_
    refine pl_x HE20 HH18 (wt0 rfl) (x_move rfl) rfl rfl fun a_21 HE22 => ?_
    refine pl_x HE22 HH18 (wt0 rfl) (x_mul rfl rfl (by exact ⟨by omega, by omega⟩)) rfl rfl fun a_23 HE24 => ?_
    refine pl_x HE24 HH18 (wt0 rfl) (x_move rfl) rfl rfl fun a_25 HE26 => ?_
    refine pl_x HE26 HH18 (wt0 rfl) (x_leq rfl rfl) rfl rfl fun a_27 HE28 => ?_
    refine wpList_nil ?_
    clear HH10 a_13 HE14 HH15 a_16 HE17 a_19 HE20 a_21 HE22 a_23 HE24 a_25 HE26
    refine nrm ?_
    refine cnd_d HE28 rfl (fun hc24 => ?_) (fun hc24 => ?_)
    · refine wp_skip ?_
      refine nrm ?_
      refine wp_seq ?_
      refine wp_block ?_
      refine wp_seq ?_
      refine rg ?_
      refine pl_x HE28 HH18 (wt0 rfl) (x_move rfl) rfl rfl fun a_29 HE30 => ?_
      refine pl_x HE30 HH18 (wt0 rfl) (x_move rfl) rfl rfl fun a_31 HE32 => ?_
      refine pl_x HE32 HH18 (wt0 rfl) (x_rem rfl rfl (by omega) (by omega)) rfl rfl fun a_33 HE34 => ?_
      refine pl_x HE34 HH18 (wt0 rfl) (x_eql rfl rfl) rfl rfl fun a_35 HE36 => ?_
      refine wpList_nil ?_
      clear a_27 HE28 a_29 HE30 a_31 HE32 a_33 HE34
      refine nrm ?_
      refine cnd_e HE36 rfl (fun hc25 => ?_) (fun hc25 => ?_)
      · refine wp_seq ?_
        refine rg ?_
        refine pl_x HE36 HH18 (wt0 rfl) (x_move rfl) rfl rfl fun a_37 HE38 => ?_
        refine pl_x HE38 HH18 (wt0 rfl) (x_move rfl) rfl rfl fun a_39 HE40 => ?_
        refine pl fun K_41 hK42 => ?_
        refine st_lit (m := 1) (cs := [.int .i64 (((k : Int) + 2))]) (e := 2) HE40 HH18 (run_lit ts_31 HE40 (vs := [.int .i64 (((k : Int) + 2))]) rfl rfl (by simp [Value.cells]) rfl (by decide)) (wt0 rfl) rfl rfl fun q26 a_43 w' HE44 HH45 => hK42 _ _ ?_
        refine pl fun K_46 hK47 => ?_
        refine st_app1F ((k : Int) + 2) HE44 HH45 ts_31 [1, 0] (by decide) rfl (fun _ => (oI (by exact ⟨by omega, by omega⟩))) rfl rfl (by simp [Value.oneCell']) (by unfold maxLen; first | omega | (simp; done) | (simp; omega)) (by first | omega | (simp; done) | (simp; omega)) (wt0 rfl) rfl fun A27 c28 S29 a_48 w' HE49 HH50 => hK47 _ _ ?_
        refine pl_x HE49 HH50 (wt0 rfl) (x_assign rfl) rfl rfl fun a_51 HE52 => ?_
        refine wpList_nil ?_
        clear a_35 HE36 a_37 HE38 a_39 HE40 HH18 K_41 hK42 a_43 HE44 HH45 a_48 HE49 hK47 K_46
        refine nrm ?_
        refine wp_block ?_
        refine lp (fun m a w' => ∃ (u : Int), m = 0 + u.toNat ∧ Env 35 [(0, .int .i64 u), (3, .slice A27 ((l ++ [((k : Int) + 2)]).length) c28), (4, .int .i64 (((k : Int) + 2)))] a ∧ Held Nob w [rVec eInt 2 S29 A27 c28 (l ++ [((k : Int) + 2)])] w' ∧ (1 ≤ u ∧ u ≤ n) ∧ (dv n ((k : Int) + 2) = dv u ((k : Int) + 2))) (0 + (n).toNat) ?_ ?_
        · exact ⟨n, rfl, HE52.sub ⟨rfl, rfl, rfl, trivial⟩, (HH50.sel [0] (by decide) rfl), (by first | omega | assumption | (simp; done) | simp_all), (by rfl)⟩
        · rintro m a_53 w' ⟨u, rfl, HE54, HH55, p30_0, p30_1⟩
          refine wp_seq ?_
          refine wp_seq ?_
          refine rg ?_
          refine pl_x HE54 HH55 (wt0 rfl) (x_move rfl) rfl rfl fun a_56 HE57 => ?_
          refine pl_x HE57 HH55 (wt0 rfl) (x_move rfl) rfl rfl fun a_58 HE59 => ?_
          refine pl_x HE59 HH55 (wt0 rfl) (x_rem rfl rfl (by omega) (by omega)) rfl rfl fun a_60 HE61 => ?_
          refine pl_x HE61 HH55 (wt0 rfl) (x_eql rfl rfl) rfl rfl fun a_62 HE63 => ?_
          refine wpList_nil ?_
          clear a_51 HE52 HH50 a_53 HE54 a_56 HE57 a_58 HE59 a_60 HE61
          refine nrm ?_
          refine cnd_e HE63 rfl (fun hc31 => ?_) (fun hc31 => ?_)
          · have hd2 := dv_lt hc31 (by omega) (by omega)
            refine wp_skip ?_
            refine nrm ?_
            refine wp_block ?_
            refine rg ?_
            refine pl_x HE63 HH55 (wt0 rfl) (x_move rfl) rfl rfl fun a_64 HE65 => ?_
            refine pl_x HE65 HH55 (wt0 rfl) (x_move rfl) rfl rfl fun a_66 HE67 => ?_
            refine pl_x HE67 HH55 (wt0 rfl) (x_quo rfl rfl (by omega) (by omega) (by omega)) rfl rfl fun a_68 HE69 => ?_
            refine pl_x HE69 HH55 (wt0 rfl) (x_assign rfl) rfl rfl fun a_70 HE71 => ?_
            refine wpList_nil ?_
            clear a_62 HE63 a_64 HE65 a_66 HE67 a_68 HE69
            refine blk_n ?_
            exact nrm ⟨0 + ((u / ((k : Int) + 2))).toNat, (by omega), (u / ((k : Int) + 2)), rfl, HE71.sub ⟨rfl, rfl, rfl, trivial⟩, (HH55.sel [0] (by decide) rfl), (by omega), (by rw [p30_1, dv_step hc31 (by omega) (by omega)])⟩
          · refine wp_exit ?_
            refine (thn_exit (thn_exit (blk_hit ?_)))
            refine blk_n ?_
            refine nrm ?_
            refine rg ?_
            refine pl_x HE63 HH55 (wt0 rfl) (x_move rfl) rfl rfl fun a_72 HE73 => ?_
            refine pl_x HE73 HH55 (wt0 rfl) (x_add rfl rfl (by exact ⟨by omega, by omega⟩)) rfl rfl fun a_74 HE75 => ?_
            refine pl_x HE75 HH55 (wt0 rfl) (x_assign rfl) rfl rfl fun a_76 HE77 => ?_
            refine wpList_nil ?_
            clear a_62 HE63 a_72 HE73 a_74 HE75
            have E32 : ((l ++ [((k : Int) + 2)])) = (l ++ [((k : Int) + 2)]) := by
              first | rfl | simp
            exact nrm ⟨1000 - (k + 1), (by omega), k + 1, u, (l ++ [((k : Int) + 2)]), A27, c28, S29, rfl, HE77.sub ⟨rfl, (by rw [E32]; rfl), (lkI rfl (by first | rfl | omega | (simp [p23_0, p23_1, p23_2, p23_3, hc24, hc25, p30_0, p30_1, hc31]; done))), trivial⟩, ((HH55.sel [0] (by decide) rfl).to (by first | rfl | (rw [E32]; done) | (rw [E32]; rfl) | (simp only [E32]; done) | (simp only [E32]; rfl))), (by have := sq_le (d := (k : Int) + 2) (n := n) (by omega) (by omega) (by omega); omega), (by first | omega | assumption | (simp; done) | simp_all), (by rw [hO2, show (((k + 1 : Nat) : Int) + 2) = (k : Int) + 2 + 1 from by omega]; first | exact primes_roundA (by omega) (by omega) (by assumption) p30_1 hc31 | exact primes_roundB (by omega) (by omega) hc31), (by first | omega | (simp; omega))⟩
      · refine wp_skip ?_
        refine blk_n ?_
        refine nrm ?_
        refine rg ?_
        refine pl_x HE36 HH18 (wt0 rfl) (x_move rfl) rfl rfl fun a_78 HE79 => ?_
        refine pl_x HE79 HH18 (wt0 rfl) (x_add rfl rfl (by exact ⟨by omega, by omega⟩)) rfl rfl fun a_80 HE81 => ?_
        refine pl_x HE81 HH18 (wt0 rfl) (x_assign rfl) rfl rfl fun a_82 HE83 => ?_
        refine wpList_nil ?_
        clear a_35 HE36 a_78 HE79 a_80 HE81
        exact nrm ⟨1000 - (k + 1), (by omega), k + 1, n, l, A_3, c_3, S_3, rfl, HE83.sub ⟨rfl, rfl, (lkI rfl (by first | rfl | omega | (simp [p23_0, p23_1, p23_2, p23_3, hc24, hc25]; done))), trivial⟩, (HH18.sel [0] (by decide) rfl), (by have := sq_le (d := (k : Int) + 2) (n := n) (by omega) (by omega) (by omega); omega), (by first | omega | assumption | (simp; done) | simp_all), (by rw [hO2, show (((k + 1 : Nat) : Int) + 2) = (k : Int) + 2 + 1 from by omega]; first | exact primes_roundA (by omega) (by omega) (by assumption) p23_1 hc25 | exact primes_roundB (by omega) (by omega) hc25), (by first | omega | (simp; omega))⟩
    · refine wp_exit ?_
      refine (thn_exit (thn_exit (blk_hit ?_)))
      refine nrm ?_
      refine wp_seq ?_
      refine wp_seq ?_
      refine rg ?_
      refine pl_x HE28 HH18 (wt0 rfl) (x_move rfl) rfl rfl fun a_84 HE85 => ?_
      refine pl_x HE85 HH18 (wt0 rfl) (x_gtr rfl rfl) rfl rfl fun a_86 HE87 => ?_
      refine wpList_nil ?_
      clear a_27 HE28 a_84 HE85
      refine nrm ?_
      refine cnd_d HE87 rfl (fun hc33 => ?_) (fun hc33 => ?_)
      · refine rg ?_
        refine pl_x HE87 HH18 (wt0 rfl) (x_move rfl) rfl rfl fun a_88 HE89 => ?_
        refine pl_x HE89 HH18 (wt0 rfl) (x_move rfl) rfl rfl fun a_90 HE91 => ?_
        refine pl fun K_92 hK93 => ?_
        refine st_lit (m := 1) (cs := [.int .i64 (n)]) (e := 2) HE91 HH18 (run_lit ts_31 HE91 (vs := [.int .i64 (n)]) rfl rfl (by simp [Value.cells]) rfl (by decide)) (wt0 rfl) rfl rfl fun q34 a_94 w' HE95 HH96 => hK93 _ _ ?_
        refine pl fun K_97 hK98 => ?_
        refine st_app1F n HE95 HH96 ts_31 [1, 0] (by decide) rfl (fun _ => (oI (by exact ⟨by omega, by omega⟩))) rfl rfl (by simp [Value.oneCell']) (by unfold maxLen; first | omega | (simp; done) | (simp; omega)) (by first | omega | (simp; done) | (simp; omega)) (wt0 rfl) rfl fun A35 c36 S37 a_99 w' HE100 HH101 => hK98 _ _ ?_
        refine pl_x HE100 HH101 (wt0 rfl) (x_assign rfl) rfl rfl fun a_102 HE103 => ?_
        refine wpList_nil ?_
        clear a_86 HE87 a_88 HE89 a_90 HE91 HH18 K_92 hK93 a_94 HE95 HH96 a_99 HE100 hK98 K_97
        refine nrm ?_
        refine wp_seq ?_
        refine rg ?_
        refine pl_x HE103 HH101 (wt0 rfl) (x_move rfl) rfl rfl fun a_104 HE105 => ?_
        refine pl_x HE105 HH101 (wt0 rfl) (x_assign rfl) rfl rfl fun a_106 HE107 => ?_
        refine wpList_nil ?_
        clear a_102 HE103 a_104 HE105
        refine nrm ?_
        refine wp_ret ?_
        refine ret1 HE107 rfl (rv_tmp rfl) ?_
        have HH108 := HH101.vecSo
        have hF : (primesI a0) = (l ++ [n]) := by
          rw [hO2, primes_end (by omega)]; first | (rw [if_pos (by omega)]; done) | (rw [if_neg (by omega)]; simp)
        exact ⟨A35, c36, by first | (rw [hF] <;> rfl) | rfl | (rw [hF]; simp only [Ending.returned.injEq, Value.slice.injEq, true_and, and_true]; first | omega | (simp; done)) | (rw [hF]; simp; omega), by rw [hF]; exact (HH108.so (i := 0) rfl), HH108.below⟩
      · refine wp_skip ?_
        refine nrm ?_
        refine wp_seq ?_
        refine rg ?_
        refine pl_x HE87 HH18 (wt0 rfl) (x_move rfl) rfl rfl fun a_109 HE110 => ?_
        refine pl_x HE110 HH18 (wt0 rfl) (x_assign rfl) rfl rfl fun a_111 HE112 => ?_
        refine wpList_nil ?_
        clear a_86 HE87 a_109 HE110
        refine nrm ?_
        refine wp_ret ?_
        refine ret1 HE112 rfl (rv_tmp rfl) ?_
        have HH113 := HH18.vecSo
        have hF : (primesI a0) = l := by
          rw [hO2, primes_end (by omega)]; first | (rw [if_pos (by omega)]; done) | (rw [if_neg (by omega)]; simp)
        exact ⟨A_3, c_3, by first | (rw [hF] <;> rfl) | rfl | (rw [hF]; simp only [Ending.returned.injEq, Value.slice.injEq, true_and, and_true]; first | omega | (simp; done)) | (rw [hF]; simp; omega), by rw [hF]; exact (HH113.so (i := 0) rfl), HH113.below⟩

set_option maxRecDepth 100000 in
set_option maxHeartbeats 4000000 in
theorem impl_FractionPrimes (A0 : Option Addr) (c0 : Nat) (a0 : (List tFraction)) (w : World) (h0 : Sl eFraction w (Old w) A0 c0 a0) :
    Calls Try.prog 77 #[.slice A0 a0.length c0] w fun e w' => ∃ (A0' : Option Addr) (c0' : Nat), e = .returned (.tuple #[.slice A0' (fracPrimes a0).1.length c0', .int .i64 (fracPrimes a0).2]) ∧ So eInt w' (Fr w w') A0' c0' (fracPrimes a0).1 ∧ Below w.heap.size w w' := by
  have l0 := h0.len
  have HH1 := Held.start Nob w
  refine enter (n := 31) Try.func77 rfl rfl rfl fun a_2 HE3 => ?_
  refine wp_seq ?_
  refine rg ?_
  refine pl_x HE3 HH1 (wt0 rfl) (x_assign rfl) rfl rfl fun a_4 HE5 => ?_
  refine pl_x HE5 HH1 (wt0 rfl) (x_assign rfl) rfl rfl fun a_6 HE7 => ?_
  refine wpList_nil ?_
  clear a_2 HE3 a_4 HE5
  refine nrm ?_
  refine wp_seq ?_
  refine wp_seq ?_
  refine rg ?_
  refine pl_x HE7 HH1 (wt0 rfl) (x_move rfl) rfl rfl fun a_8 HE9 => ?_
  refine pl fun K_10 hK11 => ?_
  refine st_call HE9 (wt0 rfl) rfl rfl rfl en_123 rfl rfl (impl_ValidFractions _ _ a0 _ (HH1.old h0)) fun e w' hr => ?_
  obtain ⟨rfl, hbr21⟩ := hr
  have HH12 := HH1.on hbr21
  refine ⟨_, rfl, fun a_13 HE14 => hK11 _ _ ?_⟩
  refine pl_x HE14 HH12 (wt0 rfl) (x_not rfl) rfl rfl fun a_15 HE16 => ?_
  refine wpList_nil ?_
  clear a_6 HE7 HH1 a_8 HE9 a_13 HE14 hK11 K_10
  refine nrm ?_
  refine cnd_nb HE16 rfl (fun hc22 => ?_) (fun hc22 => ?_)
  · refine wp_seq ?_
    refine rg ?_
    refine pl_x HE16 HH12 (wt0 rfl) (x_assign rfl) rfl rfl fun a_17 HE18 => ?_
    refine pl_x HE18 HH12 (wt0 rfl) (x_assign rfl) rfl rfl fun a_19 HE20 => ?_
    refine wpList_nil ?_
    clear a_15 HE16 a_17 HE18
    refine nrm ?_
    refine wp_ret ?_
    refine (thn_ret ?_)
    refine ret2 HE20 rfl (rv_tmp rfl) (rv_tmp rfl) ?_
    have hF : (fracPrimes a0) = ([], 1) := by
      first | (simp [fracPrimes, hc22]; done) | (unfold fracPrimes; rw [if_pos ‹_›, compI_sortI, List.take_of_length_le (by omega)])
    exact ⟨none, 0, by first | (rw [hF] <;> rfl) | rfl | (rw [hF]; simp only [Ending.returned.injEq, Value.slice.injEq, true_and, and_true]; first | omega | (simp; done)) | (rw [hF]; simp; omega), by rw [hF]; exact (So.nil (Nat.zero_le _)), HH12.below⟩
  · have hV := validFrac_facts hc22
    refine wp_skip ?_
    refine nrm ?_
    refine wp_seq ?_
    refine rg ?_
    refine pl fun K_21 hK22 => ?_
    refine st_lit (m := 0) (cs := []) (e := 2) HE16 HH12 (run_lit ts_31 HE16 (vs := []) rfl rfl (by simp [Value.cells]) rfl (by decide)) (wt0 rfl) rfl rfl fun q23 a_23 w' HE24 HH25 => hK22 _ _ ?_
    refine pl_x HE24 HH25 (wt0 rfl) (x_assign rfl) rfl rfl fun a_26 HE27 => ?_
    refine wpList_nil ?_
    clear a_15 HE16 HH12 a_23 HE24 hK22 K_21
    refine nrm ?_
    refine wp_seq ?_
    refine wp_seq ?_
    refine rg ?_
    refine pl_x HE27 HH25 (wt0 rfl) (x_move rfl) rfl rfl fun a_28 HE29 => ?_
    refine pl_x HE29 HH25 (wt0 rfl) (x_len Try.underlying66 rfl) rfl rfl fun a_30 HE31 => ?_
    refine pl_x HE31 HH25 (wt0 rfl) (x_move rfl) rfl rfl fun a_32 HE33 => ?_
    refine wpList_nil ?_
    clear a_26 HE27 a_28 HE29 a_30 HE31
    refine nrm ?_
    refine wp_block ?_
    have HH34 := Held.vecFlat (E := eInt) (xs := []) (css := []) HH25 rfl (Nat.zero_le _) (fun i x hx => by simp at hx)
    have HH35 := HH34.vecSo
    refine lp (fun m a w' => ∃ (k : Nat) (A_4 : Option Addr) (c_4 : Nat) (S_4 : Nat → Prop), m = a0.length - k ∧ Env 31 [(4, .slice A_4 (List.length (fpL (a0.take k))) c_4), (13, .int .i64 (k : Int)), (11, .slice A0 (a0.length) c0), (12, .int .i64 ((a0.length : Int)))] a ∧ Held Nob w [rSo eInt S_4 A_4 c_4 (fpL (a0.take k))] w' ∧ (k ≤ a0.length)) (a0.length - (0)) ?_ ?_
    · have E24 : fpL (a0.take 0) = ([] : List Int) := by
        first | rfl | simp
      exact ⟨0, (some ⟨q23, 0, none⟩), (List.length (α := Int) []), (fun b => b = q23), rfl, HE33.sub ⟨(by rw [E24]; rfl), (lkI rfl (by first | rfl | omega | (simp [hc22]; done))), rfl, rfl, trivial⟩, ((HH35.sel [0] (by decide) rfl).to (by first | rfl | (rw [E24]; done) | (rw [E24]; rfl) | (simp only [E24]; done) | (simp only [E24]; rfl))), (by first | omega | assumption | (simp; done) | simp_all)⟩
    · rintro m a_36 w' ⟨k, A_4, c_4, S_4, rfl, HE37, HH38, p25_0⟩
      have ol := fpL_len (a0.take k)
      rw [List.length_take] at ol
      have ol2 : (fpL (a0.take k)).length ≤ 300000 := by omega
      have ol3 := putsI_len (fpL (a0.take k)) []
      simp only [List.length_nil, Nat.zero_add] at ol3
      refine wp_seq ?_
      refine rg ?_
      refine pl_x HE37 HH38 (wt0 rfl) (x_lss rfl rfl) rfl rfl fun a_39 HE40 => ?_
      refine wpList_nil ?_
      clear HH25 HH34 a_32 HE33 HH35 a_36 HE37
      refine nrm ?_
      refine wp_seq ?_
      refine cnd_d HE40 rfl (fun hc26 => ?_) (fun hc26 => ?_)
      · refine wp_skip ?_
        refine nrm ?_
        refine wp_seq ?_
        refine wp_block ?_
        refine wp_seq ?_
        refine rg ?_
        have ke27 : k < a0.length := by omega
        obtain ⟨be27, fe27, ese27, Ae27, Re27, De27⟩ := el_old h0 ke27
        obtain ⟨e27, xe27⟩ : ∃ x_, x_ = a0[k] := ⟨_, rfl⟩
        rw [← xe27] at Re27
        have Qe27 := Re27
        obtain ⟨rfl, ge27_0, ge27_1⟩ := shape_Fraction Re27
        have je27_0 := ge27_0; unfold I64 at je27_0
        have je27_1 := ge27_1; unfold I64 at je27_1
        have fe27 := hV.2 e27 (by rw [xe27]; exact List.getElem_mem _)
        have fae27 := primesI_len e27.1
        have fbe27 := primesI_len e27.2
        refine pl_x HE40 HH38 (wt0 rfl) (x_indexAddr ts_66 rfl rfl Ae27 rfl ke27) rfl rfl fun a_41 HE42 => ?_
        refine pl_x HE42 HH38 (wt0 rfl) (x_loadN (cs := [.int .i64 (e27.1), .int .i64 (e27.2)]) tv_159 rfl rfl (c_oldN De27)) rfl rfl fun a_43 HE44 => ?_
        refine pl fun K_45 hK46 => ?_
        refine st_alloc HE44 HH38 tv_159 (wt0 rfl) rfl fun q28 a_47 w' HE48 HH49 => hK46 _ _ ?_
        refine pl fun K_50 hK51 => ?_
        refine st_store (vs := [.int .i64 (e27.1), .int .i64 (e27.2)]) 0 HE48 HH49 tv_159 rfl rfl rfl rfl rfl rfl (by simp [Value.oneCell']) (wt0 rfl) fun w' HH52 => hK51 _ _ ?_
        refine wpList_nil ?_
        clear a_39 HE40 a_41 HE42 a_43 HE44 HH38 K_45 hK46 HH49 hK51 K_50
        refine nrm ?_
        refine dr_start (Held Nob w [rBlk q28 159 [.int .i64 (e27.1), .int .i64 (e27.2)], rSo eInt S_4 A_4 c_4 (fpL (a0.take k))]) 10 #[false, false, false, false, false, false, false, false, false, false] hmix rfl rfl HH52 (fun _ h => h.sel [0, 1] (by decide) rfl) fun w' HH53 => ?_
        have HS54 := HH53
        refine dr_take (i := 0) (ls' := #[true, false, false, false, false, false, false, false, false, false]) HE48 HS54 rfl (by kernel_rfl) (by kernel_rfl) (by kernel_rfl) (fun _ _ _ h => h) rfl (wt0 rfl) (x_move rfl) rfl rfl fun a_55 HE56 => ?_
        refine dr_take (i := 1) (ls' := #[true, true, false, false, false, false, false, false, false, false]) HE56 HS54 rfl (by kernel_rfl) (by kernel_rfl) (by kernel_rfl) (fun _ _ _ h => h) rfl (wt0 rfl) (x_fieldAddr fa_159_0 rfl) rfl rfl fun a_57 HE58 => ?_
        refine dr_take (i := 2) (ls' := #[true, true, true, false, false, false, false, false, false, false]) HE58 HS54 rfl (by kernel_rfl) (by kernel_rfl) (by kernel_rfl) (fun _ _ _ h => h) rfl (wt0 rfl) (x_load1 tv_2 rfl (c_blk 0 rfl rfl)) rfl rfl fun a_59 HE60 => ?_
        refine dr_take (i := 4) (ls' := #[true, true, true, false, true, false, false, false, false, false]) HE60 HS54 rfl (by kernel_rfl) (by kernel_rfl) (by kernel_rfl) (fun _ _ _ h => h) rfl (wt0 rfl) (x_fieldAddr fa_159_1 rfl) rfl rfl fun a_61 HE62 => ?_
        refine dr_take (i := 5) (ls' := #[true, true, true, false, true, true, false, false, false, false]) HE62 HS54 rfl (by kernel_rfl) (by kernel_rfl) (by kernel_rfl) (fun _ _ _ h => h) rfl (wt0 rfl) (x_load1 tv_2 rfl (c_blk 0 rfl rfl)) rfl rfl fun a_63 HE64 => ?_
        refine dr_one (i := 3) (ls' := #[true, true, true, true, true, true, false, false, false, false]) rfl (by kernel_rfl) rfl fun K_65 hK66 => ?_
        refine st_call HE64 (wt0 rfl) rfl rfl rfl en_163 rfl rfl (impl_primesOf e27.1 _ (by omega)) fun e w' hr => ?_
        obtain ⟨Ar29_0, cr29_0, rfl, hor29_0, hbr29⟩ := hr
        obtain ⟨Sr29, HH67⟩ := HH53.newS hbr29 hor29_0
        refine ⟨_, rfl, fun a_68 HE69 => hK66 _ _ (by exact HH67.sel [1, 2] (by decide) rfl) ?_⟩
        have HS70 := HH67.sel [1, 2] (by decide) rfl
        refine dr_one (i := 6) (ls' := #[true, true, true, true, true, true, true, false, false, false]) rfl (by kernel_rfl) rfl fun K_71 hK72 => ?_
        refine st_call HE69 (wt0 rfl) rfl rfl rfl en_163 rfl rfl (impl_primesOf e27.2 _ (by omega)) fun e w' hr => ?_
        obtain ⟨Ar30_0, cr30_0, rfl, hor30_0, hbr30⟩ := hr
        obtain ⟨Sr30, HH73⟩ := HH67.newS hbr30 hor30_0
        refine ⟨_, rfl, fun a_74 HE75 => hK72 _ _ (by exact HH73.sel [2, 3] (by decide) rfl) ?_⟩
        have HS76 := HH73.sel [2, 3] (by decide) rfl
        refine dr_one (i := 7) (ls' := #[true, true, true, true, true, true, true, true, false, false]) rfl (by kernel_rfl) rfl fun K_77 hK78 => ?_
        refine st_lit (m := 3) (cs := [.slice A_4 ((List.length (fpL (a0.take k)))) c_4, .slice Ar29_0 ((primesI e27.1).length) cr29_0, .slice Ar30_0 ((primesI e27.2).length) cr30_0]) (e := 31) HE75 HH73 (run_lit ts_92 HE75 (vs := [.slice A_4 ((List.length (fpL (a0.take k)))) c_4, .slice Ar29_0 ((primesI e27.1).length) cr29_0, .slice Ar30_0 ((primesI e27.2).length) cr30_0]) rfl rfl (by simp [Value.cells]) rfl (by decide)) (wt0 rfl) rfl rfl fun q31 a_79 w' HE80 HH81 => hK78 _ _ (by exact HH81.sel [3, 4] (by decide) rfl) ?_
        have HS82 := HH81.sel [3, 4] (by decide) rfl
        refine dr_one (i := 8) (ls' := #[true, true, true, true, true, true, true, true, true, false]) rfl (by kernel_rfl) rfl fun K_83 hK84 => ?_
        refine st_call HE80 (wt0 rfl) rfl rfl rfl en_162 rfl rfl (impl_joined _ _ ([fpL (a0.take k), (primesI e27.1), (primesI e27.2)] : List (List Int)) _ (Held.slLit (E := (eSl eInt)) (css := [[.slice A_4 ((List.length (fpL (a0.take k)))) c_4], [.slice Ar29_0 ((primesI e27.1).length) cr29_0], [.slice Ar30_0 ((primesI e27.2).length) cr30_0]]) (xs := [fpL (a0.take k), (primesI e27.1), (primesI e27.2)]) (i := 0) HH81 rfl rfl (by unfold maxLen; simp) (fun i x hx => by match i with | 0 => exact ⟨_, rfl, by simp at hx; subst hx; exact ⟨_, _, rfl, (HH81.sl (i := 4) rfl)⟩⟩ | 1 => exact ⟨_, rfl, by simp at hx; subst hx; exact ⟨_, _, rfl, (HH81.sl (i := 2) rfl)⟩⟩ | 2 => exact ⟨_, rfl, by simp at hx; subst hx; exact ⟨_, _, rfl, (HH81.sl (i := 1) rfl)⟩⟩ | i + 3 => simp at hx)) (by simp; omega)) fun e w' hr => ?_
        obtain ⟨Ar32_0, cr32_0, rfl, hor32_0, hbr32⟩ := hr
        obtain ⟨Sr32, HH85⟩ := HH81.newS hbr32 hor32_0
        refine ⟨_, rfl, fun a_86 HE87 => hK84 _ _ (by exact HH85.sel [4, 5] (by decide) rfl) ?_⟩
        have HS88 := HH85.sel [4, 5] (by decide) rfl
        refine dr_take (i := 9) (ls' := #[true, true, true, true, true, true, true, true, true, true]) HE87 HS88 rfl (by kernel_rfl) (by kernel_rfl) (by kernel_rfl) (fun _ _ _ h => h) rfl (wt0 rfl) (x_assign rfl) rfl rfl fun a_89 HE90 => ?_
        refine dr_done (by kernel_rfl) ?_
        clear HH52 a_47 HE48 a_55 HE56 a_57 HE58 a_59 HE60 a_61 HE62 HH53 a_63 HE64 HS54 K_65 hK66 HH67 a_68 HE69 HS70 K_71 hK72 a_74 HE75 HH73 HS76 K_77 hK78 HH81 a_79 HE80 HS82 a_86 HE87 hK84 K_83
        refine blk_n ?_
        refine nrm ?_
        refine rg ?_
        refine pl_x HE90 HH85 (wt0 rfl) (x_add rfl rfl (by exact ⟨by omega, by omega⟩)) rfl rfl fun a_91 HE92 => ?_
        refine pl_x HE92 HH85 (wt0 rfl) (x_move rfl) rfl rfl fun a_93 HE94 => ?_
        refine wpList_nil ?_
        clear a_89 HE90 a_91 HE92
        have E33 : fpL (a0.take (k + 1)) = (List.flatten ([fpL (a0.take k), (primesI e27.1), (primesI e27.2)] : List (List Int))) := by
          rw [List.take_succ_eq_append_getElem (by omega), fpL_snoc, ← xe27]; simp
        exact nrm ⟨a0.length - (k + 1), (by omega), k + 1, Ar32_0, cr32_0, Sr32, rfl, HE94.sub ⟨(by rw [E33]; rfl), (lkI rfl (by first | rfl | omega | (simp [hc22, p25_0, hc26, xe27]; done))), rfl, rfl, trivial⟩, ((HH85.sel [0] (by decide) rfl).to (by first | rfl | (rw [E33]; done) | (rw [E33]; rfl) | (simp only [E33]; done) | (simp only [E33]; rfl))), (by first | omega | assumption | (simp; done) | simp_all)⟩
      · refine wp_exit ?_
        refine (thn_exit (thn_exit (blk_hit ?_)))
        refine nrm ?_
        refine wp_seq ?_
        refine rg ?_
        refine pl_x HE40 HH38 (wt0 rfl) (x_move rfl) rfl rfl fun a_95 HE96 => ?_
        refine pl fun K_97 hK98 => ?_
        have HH99 : Held Nob w ([rSo eInt S_4 A_4 c_4 (fpL (a0.take k))] ++ []) _ := HH38
        refine st_call HE96 (wt0 rfl) rfl rfl rfl en_156 rfl rfl (Sort_Int64 (Foot [rSo eInt S_4 A_4 c_4 (fpL (a0.take k))]) _ _ (fpL (a0.take k)) _ _ HH99.focus (by omega)) fun e w' hr => ?_
        obtain ⟨Sr34_0, rfl, hbr34⟩ := hr
        have HH100 := HH99.back hbr34
        clear hbr34
        have HH101 : Held Nob w ([rSo eInt Sr34_0 A_4 c_4 (sortI (fpL (a0.take k)))] ++ []) _ := HH100
        have hAr34_0 := sortI_len (fpL (a0.take k))
        refine ⟨_, rfl, fun a_102 HE103 => hK98 _ _ ?_⟩
        refine wpList_nil ?_
        clear a_39 HE40 HH38 HH99 HH100 a_95 HE96 hK98 K_97
        refine nrm ?_
        refine wp_seq ?_
        refine rg ?_
        refine pl_x HE103 HH101 (wt0 rfl) (x_move rfl) rfl rfl fun a_104 HE105 => ?_
        refine pl fun K_106 hK107 => ?_
        have HE108 := HE105.castS (t := 29) (m' := List.length (sortI (fpL (a0.take k)))) rfl (by first | omega | (simp; done) | (simp; omega))
        have HH109 : Held Nob w ([rSo eInt Sr34_0 A_4 c_4 (sortI (fpL (a0.take k)))] ++ []) _ := HH101
        refine st_call HE108 (wt0 rfl) rfl rfl rfl en_157 rfl rfl (Compact_Int64 (Foot [rSo eInt Sr34_0 A_4 c_4 (sortI (fpL (a0.take k)))]) _ _ (sortI (fpL (a0.take k))) _ _ HH109.focus (by omega)) fun e w' hr => ?_
        obtain ⟨Ar35_90, cr35_90, Sr35_90, rfl, hbr35⟩ := hr
        have HH110 := HH109.back hbr35
        clear hbr35
        have HH111 : Held Nob w ([rSo eInt Sr35_90 Ar35_90 cr35_90 (compI (sortI (fpL (a0.take k))))] ++ []) _ := HH110
        have hAr35_0 := compI_le (sortI (fpL (a0.take k)))
        refine ⟨_, rfl, fun a_112 HE113 => hK107 _ _ ?_⟩
        refine pl_x HE113 HH111 (wt0 rfl) (x_assign rfl) rfl rfl fun a_114 HE115 => ?_
        refine pl_x HE115 HH111 (wt0 rfl) (x_assign rfl) rfl rfl fun a_116 HE117 => ?_
        refine wpList_nil ?_
        clear a_102 HE103 HE105 HH101 HH109 HH110 a_104 HE108 a_112 HE113 a_114 HE115 hK107 K_106
        refine nrm ?_
        refine wp_ret ?_
        refine ret2 HE117 rfl (rv_tmp rfl) (rv_tmp rfl) ?_
        have hF : (fracPrimes a0) = ((compI (sortI (fpL (a0.take k)))), 0) := by
          first | (simp [fracPrimes, hc22, p25_0, hc26]; done) | (unfold fracPrimes; rw [if_pos ‹_›, compI_sortI, List.take_of_length_le (by omega)])
        exact ⟨Ar35_90, cr35_90, by first | (rw [hF] <;> rfl) | rfl | (rw [hF]; simp only [Ending.returned.injEq, Value.slice.injEq, true_and, and_true]; first | omega | (simp; done)) | (rw [hF]; simp; omega), by rw [hF]; exact (HH111.so (i := 0) rfl), HH111.below⟩

set_option maxRecDepth 100000 in
set_option maxHeartbeats 4000000 in
theorem spec_l08Primes (M : Nat → Prop) (A0 : Option Addr) (c0 : Nat) (a0 : (List Int)) (S0 : Nat → Prop) (a1 : Int) (w : World) (HM : Held M w [rSo eInt S0 A0 c0 a0] w) (s0 : 1 ≤ a1 ∧ a1 ≤ 999999) (s1 : a0.length ≤ 1000000) :
    Calls Try.prog 161 #[.slice A0 a0.length c0, .int .i64 a1] w fun e w' => ∃ (AR0' : Option Addr) (cR0' : Nat) (SR0' : Nat → Prop), e = .returned (.slice AR0' (putsP a0 a1).length cR0') ∧ Held M w [rSo eInt SR0' AR0' cR0' (putsP a0 a1)] w' := by
  have HH1 := HM
  refine enter (n := 29) Try.func161 rfl rfl rfl fun a_2 HE3 => ?_
  refine wp_seq ?_
  refine rg ?_
  refine pl_x HE3 HH1 (wt0 rfl) (x_assign rfl) rfl rfl fun a_4 HE5 => ?_
  refine wpList_nil ?_
  clear a_2 HE3
  refine nrm ?_
  refine wp_seq ?_
  refine wp_seq ?_
  refine rg ?_
  refine pl_x HE5 HH1 (wt0 rfl) (x_assign rfl) rfl rfl fun a_6 HE7 => ?_
  refine wpList_nil ?_
  clear a_4 HE5
  refine nrm ?_
  refine wp_block ?_
  refine lp (fun m a w' => ∃ (k : Nat) (n : Int) (l : List Int) (A_0 : Option Addr) (c_0 : Nat) (S_0 : Nat → Prop), m = 1000 - k ∧ Env 29 [(0, .slice A_0 (List.length l) c_0), (1, .int .i64 n), (5, .int .i64 ((k : Int) + 2))] a ∧ Held M w [rSo eInt S_0 A_0 c_0 l] w' ∧ (k ≤ 998) ∧ (1 ≤ n ∧ n ≤ 999999) ∧ (putsP a0 a1 = putsI l (prF (1000 - k) n ((k : Int) + 2))) ∧ (l.length ≤ 1000000 + k)) (1000 - (0)) ?_ ?_
  · exact ⟨0, a1, a0, A0, c0, S0, rfl, HE7.sub ⟨rfl, rfl, (lkI rfl (by first | rfl | omega | (simp []; done))), trivial⟩, (HH1.sel [0] (by decide) rfl), (by first | omega | assumption | (simp; done) | simp_all), (by first | omega | assumption | (simp; done) | simp_all), (by unfold putsP primesI; simp), (by first | omega | assumption | (simp; done) | simp_all)⟩
  · rintro m a_8 w' ⟨k, n, l, A_0, c_0, S_0, rfl, HE9, HH10, p21_0, p21_1, p21_2, p21_3⟩
    have hO1 := p21_1
    have hO2 := p21_2
    have hsq := sq_bd (d := (k : Int) + 2) (by omega)
    have hO3 := p21_3
    have hpl := putI_len ((k : Int) + 2) l
    have hpn : (put2 l n).length ≤ l.length + 1 := putI_len n l
    refine wp_seq ?_
    refine wp_seq ?_
    refine rg ?_
    refine pl_x HE9 HH10 (wt0 rfl) (x_move rfl) rfl rfl fun a_11 HE12 => ?_
    refine pl_x HE12 HH10 (wt0 rfl) (x_move rfl) rfl rfl fun a_13 HE14 => ?_
    refine pl_x HE14 HH10 (wt0 rfl) (x_mul rfl rfl (by exact ⟨by omega, by omega⟩)) rfl rfl fun a_15 HE16 => ?_
    refine pl_x HE16 HH10 (wt0 rfl) (x_move rfl) rfl rfl fun a_17 HE18 => ?_
    refine pl_x HE18 HH10 (wt0 rfl) (x_leq rfl rfl) rfl rfl fun a_19 HE20 => ?_
    refine wpList_nil ?_
    clear a_6 HE7 HH1 a_8 HE9 a_11 HE12 a_13 HE14 a_15 HE16 a_17 HE18
    refine nrm ?_
    refine cnd_d HE20 rfl (fun hc22 => ?_) (fun hc22 => ?_)
    · refine wp_skip ?_
      refine nrm ?_
      refine wp_seq ?_
      refine wp_block ?_
      refine wp_block ?_
      refine lp (fun m a w' => ∃ (u : Int) (q : List Int) (A_0 : Option Addr) (c_0 : Nat) (S_0 : Nat → Prop), m = 0 + u.toNat ∧ Env 29 [(0, .slice A_0 (List.length q) c_0), (1, .int .i64 u), (5, .int .i64 (((k : Int) + 2)))] a ∧ Held M w [rSo eInt S_0 A_0 c_0 q] w' ∧ (1 ≤ u ∧ u ≤ n) ∧ (dv n ((k : Int) + 2) = dv u ((k : Int) + 2)) ∧ ((u = n ∧ q = l) ∨ (n % ((k : Int) + 2) = 0 ∧ q = putI ((k : Int) + 2) l))) (0 + (n).toNat) ?_ ?_
      · exact ⟨n, l, A_0, c_0, S_0, rfl, HE20.sub ⟨rfl, rfl, rfl, trivial⟩, (HH10.sel [0] (by decide) rfl), (by first | omega | assumption | (simp; done) | simp_all), (by rfl), (by exact .inl ⟨rfl, rfl⟩)⟩
      · rintro m a_21 w' ⟨u, q, A_0, c_0, S_0, rfl, HE22, HH23, p23_0, p23_1, p23_2⟩
        have hq9 : q.length ≤ 1000000 + k + 1 := by rcases p23_2 with ⟨_, hq⟩ | ⟨_, hq⟩ <;> rw [hq] <;> omega
        refine wp_seq ?_
        refine wp_seq ?_
        refine rg ?_
        refine pl_x HE22 HH23 (wt0 rfl) (x_move rfl) rfl rfl fun a_24 HE25 => ?_
        refine pl_x HE25 HH23 (wt0 rfl) (x_move rfl) rfl rfl fun a_26 HE27 => ?_
        refine pl_x HE27 HH23 (wt0 rfl) (x_rem rfl rfl (by omega) (by omega)) rfl rfl fun a_28 HE29 => ?_
        refine pl_x HE29 HH23 (wt0 rfl) (x_eql rfl rfl) rfl rfl fun a_30 HE31 => ?_
        refine wpList_nil ?_
        clear a_19 HE20 HH10 a_21 HE22 a_24 HE25 a_26 HE27 a_28 HE29
        refine nrm ?_
        refine cnd_e HE31 rfl (fun hc24 => ?_) (fun hc24 => ?_)
        · have hd2 := dv_lt hc24 (by omega) (by omega)
          refine wp_skip ?_
          refine nrm ?_
          refine wp_block ?_
          refine wp_seq ?_
          refine rg ?_
          refine pl_x HE31 HH23 (wt0 rfl) (x_move rfl) rfl rfl fun a_32 HE33 => ?_
          refine pl_x HE33 HH23 (wt0 rfl) (x_move rfl) rfl rfl fun a_34 HE35 => ?_
          refine pl fun K_36 hK37 => ?_
          refine st_call HE35 (wt0 rfl) rfl rfl rfl en_155 rfl rfl (spec_l00Put _ _ q ((k : Int) + 2) _ (HH23.sl (i := 0) rfl) (by omega) (by exact ⟨by omega, by omega⟩)) fun e w' hr => ?_
          obtain ⟨Ar25_0, cr25_0, rfl, hor25_0, hbr25⟩ := hr
          obtain ⟨Sr25, HH38⟩ := HH23.newS hbr25 hor25_0
          refine ⟨_, rfl, fun a_39 HE40 => hK37 _ _ ?_⟩
          refine pl_x HE40 HH38 (wt0 rfl) (x_assign rfl) rfl rfl fun a_41 HE42 => ?_
          refine wpList_nil ?_
          clear a_30 HE31 a_32 HE33 HH23 a_34 HE35 a_39 HE40 hK37 K_36
          refine nrm ?_
          refine rg ?_
          refine pl_x HE42 HH38 (wt0 rfl) (x_move rfl) rfl rfl fun a_43 HE44 => ?_
          refine pl_x HE44 HH38 (wt0 rfl) (x_move rfl) rfl rfl fun a_45 HE46 => ?_
          refine pl_x HE46 HH38 (wt0 rfl) (x_quo rfl rfl (by omega) (by omega) (by omega)) rfl rfl fun a_47 HE48 => ?_
          refine pl_x HE48 HH38 (wt0 rfl) (x_assign rfl) rfl rfl fun a_49 HE50 => ?_
          refine wpList_nil ?_
          clear a_41 HE42 a_43 HE44 a_45 HE46 a_47 HE48
          refine blk_n ?_
          have E26 : ((put2 q ((k : Int) + 2))) = (put2 q ((k : Int) + 2)) := by
            first | rfl | simp
          exact nrm ⟨0 + ((u / ((k : Int) + 2))).toNat, (by omega), (u / ((k : Int) + 2)), (put2 q ((k : Int) + 2)), Ar25_0, cr25_0, Sr25, rfl, HE50.sub ⟨(by rw [E26]; rfl), rfl, rfl, trivial⟩, ((HH38.sel [0] (by decide) rfl).to (by first | rfl | (rw [E26]; done) | (rw [E26]; rfl) | (simp only [E26]; done) | (simp only [E26]; rfl))), (by omega), (by rw [p23_1, dv_step hc24 (by omega) (by omega)]), (by exact .inr (primes_put hc24 p23_2))⟩
        · refine wp_exit ?_
          refine (thn_exit (thn_exit (blk_hit ?_)))
          refine blk_n ?_
          refine nrm ?_
          refine rg ?_
          refine pl_x HE31 HH23 (wt0 rfl) (x_move rfl) rfl rfl fun a_51 HE52 => ?_
          refine pl_x HE52 HH23 (wt0 rfl) (x_add rfl rfl (by exact ⟨by omega, by omega⟩)) rfl rfl fun a_53 HE54 => ?_
          refine pl_x HE54 HH23 (wt0 rfl) (x_assign rfl) rfl rfl fun a_55 HE56 => ?_
          refine wpList_nil ?_
          clear a_30 HE31 a_51 HE52 a_53 HE54
          exact nrm ⟨1000 - (k + 1), (by omega), k + 1, u, q, A_0, c_0, S_0, rfl, HE56.sub ⟨rfl, rfl, (lkI rfl (by first | rfl | omega | (simp [p21_0, p21_1, p21_2, p21_3, hc22, p23_0, p23_1, p23_2, hc24]; done))), trivial⟩, (HH23.sel [0] (by decide) rfl), (by have := sq_le (d := (k : Int) + 2) (n := n) (by omega) (by omega) (by omega); omega), (by omega), (by rw [hO2, show (((k + 1 : Nat) : Int) + 2) = (k : Int) + 2 + 1 from by omega]; exact primes_round (by omega) (by omega) p23_1 hc24 p23_2), (by rcases p23_2 with ⟨_, hq⟩ | ⟨_, hq⟩ <;> rw [hq] <;> omega)⟩
    · refine wp_exit ?_
      refine (thn_exit (thn_exit (blk_hit ?_)))
      refine nrm ?_
      refine wp_seq ?_
      refine wp_seq ?_
      refine rg ?_
      refine pl_x HE20 HH10 (wt0 rfl) (x_move rfl) rfl rfl fun a_57 HE58 => ?_
      refine pl_x HE58 HH10 (wt0 rfl) (x_gtr rfl rfl) rfl rfl fun a_59 HE60 => ?_
      refine wpList_nil ?_
      clear a_19 HE20 a_57 HE58
      refine nrm ?_
      refine cnd_d HE60 rfl (fun hc27 => ?_) (fun hc27 => ?_)
      · refine rg ?_
        refine pl_x HE60 HH10 (wt0 rfl) (x_move rfl) rfl rfl fun a_61 HE62 => ?_
        refine pl_x HE62 HH10 (wt0 rfl) (x_move rfl) rfl rfl fun a_63 HE64 => ?_
        refine pl fun K_65 hK66 => ?_
        refine st_call HE64 (wt0 rfl) rfl rfl rfl en_155 rfl rfl (spec_l00Put _ _ l n _ (HH10.sl (i := 0) rfl) (by omega) (by exact ⟨by omega, by omega⟩)) fun e w' hr => ?_
        obtain ⟨Ar28_0, cr28_0, rfl, hor28_0, hbr28⟩ := hr
        obtain ⟨Sr28, HH67⟩ := HH10.newS hbr28 hor28_0
        refine ⟨_, rfl, fun a_68 HE69 => hK66 _ _ ?_⟩
        refine pl_x HE69 HH67 (wt0 rfl) (x_assign rfl) rfl rfl fun a_70 HE71 => ?_
        refine wpList_nil ?_
        clear a_59 HE60 a_61 HE62 HH10 a_63 HE64 a_68 HE69 hK66 K_65
        refine nrm ?_
        refine wp_seq ?_
        refine rg ?_
        refine pl_x HE71 HH67 (wt0 rfl) (x_move rfl) rfl rfl fun a_72 HE73 => ?_
        refine pl_x HE73 HH67 (wt0 rfl) (x_assign rfl) rfl rfl fun a_74 HE75 => ?_
        refine wpList_nil ?_
        clear a_70 HE71 a_72 HE73
        refine nrm ?_
        refine wp_ret ?_
        refine ret1 HE75 rfl (rv_tmp rfl) ?_
        have hF : (putsP a0 a1) = (put2 l n) := by
          rw [hO2, primes_end (by omega)]; first | (rw [if_pos (by omega)]; rfl) | (rw [if_neg (by omega)]; rfl)
        exact ⟨_, _, _, by first | (rw [hF] <;> rfl) | rfl | (rw [hF]; simp only [Ending.returned.injEq, Value.slice.injEq, true_and, and_true]; first | omega | (simp; done)) | (rw [hF]; simp; omega), by rw [hF]; exact HH67.sel [0] (by decide) rfl⟩
      · refine wp_skip ?_
        refine nrm ?_
        refine wp_seq ?_
        refine rg ?_
        refine pl_x HE60 HH10 (wt0 rfl) (x_move rfl) rfl rfl fun a_76 HE77 => ?_
        refine pl_x HE77 HH10 (wt0 rfl) (x_assign rfl) rfl rfl fun a_78 HE79 => ?_
        refine wpList_nil ?_
        clear a_59 HE60 a_76 HE77
        refine nrm ?_
        refine wp_ret ?_
        refine ret1 HE79 rfl (rv_tmp rfl) ?_
        have hF : (putsP a0 a1) = l := by
          rw [hO2, primes_end (by omega)]; first | (rw [if_pos (by omega)]; rfl) | (rw [if_neg (by omega)]; rfl)
        exact ⟨_, _, _, by first | (rw [hF] <;> rfl) | rfl | (rw [hF]; simp only [Ending.returned.injEq, Value.slice.injEq, true_and, and_true]; first | omega | (simp; done)) | (rw [hF]; simp; omega), by rw [hF]; exact HH10.sel [0] (by decide) rfl⟩

set_option maxRecDepth 100000 in
set_option maxHeartbeats 4000000 in
theorem spec_FractionPrimes (A0 : Option Addr) (c0 : Nat) (a0 : (List tFraction)) (w : World) (h0 : Sl eFraction w (Old w) A0 c0 a0) :
    Calls Try.prog 76 #[.slice A0 a0.length c0] w fun e w' => ∃ (A0' : Option Addr) (c0' : Nat), e = .returned (.tuple #[.slice A0' (fracPrimes a0).1.length c0', .int .i64 (fracPrimes a0).2]) ∧ So eInt w' (Fr w w') A0' c0' (fracPrimes a0).1 ∧ Below w.heap.size w w' := by
  have l0 := h0.len
  have HH1 := Held.start Nob w
  refine enter (n := 31) Try.func76 rfl rfl rfl fun a_2 HE3 => ?_
  refine wp_seq ?_
  refine rg ?_
  refine pl_x HE3 HH1 (wt0 rfl) (x_assign rfl) rfl rfl fun a_4 HE5 => ?_
  refine pl_x HE5 HH1 (wt0 rfl) (x_assign rfl) rfl rfl fun a_6 HE7 => ?_
  refine wpList_nil ?_
  clear a_2 HE3 a_4 HE5
  refine nrm ?_
  refine wp_seq ?_
  refine wp_seq ?_
  refine rg ?_
  refine pl_x HE7 HH1 (wt0 rfl) (x_move rfl) rfl rfl fun a_8 HE9 => ?_
  refine pl fun K_10 hK11 => ?_
  refine st_call HE9 (wt0 rfl) rfl rfl rfl en_116 rfl rfl (spec_l08Is _ _ a0 _ (HH1.old h0)) fun e w' hr => ?_
  obtain ⟨rfl, rfl⟩ := hr
  refine ⟨_, rfl, fun a_12 HE13 => hK11 _ _ ?_⟩
  refine pl_x HE13 HH1 (wt0 rfl) (x_not rfl) rfl rfl fun a_14 HE15 => ?_
  refine wpList_nil ?_
  clear a_6 HE7 a_8 HE9 a_12 HE13 hK11 K_10
  refine nrm ?_
  refine cnd_nb HE15 rfl (fun hc22 => ?_) (fun hc22 => ?_)
  · refine wp_seq ?_
    refine rg ?_
    refine pl_x HE15 HH1 (wt0 rfl) (x_assign rfl) rfl rfl fun a_16 HE17 => ?_
    refine pl_x HE17 HH1 (wt0 rfl) (x_assign rfl) rfl rfl fun a_18 HE19 => ?_
    refine wpList_nil ?_
    clear a_14 HE15 a_16 HE17
    refine nrm ?_
    refine wp_ret ?_
    refine (thn_ret ?_)
    refine ret2 HE19 rfl (rv_tmp rfl) (rv_tmp rfl) ?_
    have hF : (fracPrimes a0) = ([], 1) := by
      first | (simp [fracPrimes, hc22]; done) | (unfold fracPrimes; rw [if_pos ‹_›, List.take_of_length_le (by omega)])
    exact ⟨none, 0, by first | (rw [hF] <;> rfl) | rfl | (rw [hF]; simp only [Ending.returned.injEq, Value.slice.injEq, true_and, and_true]; first | omega | (simp; done)) | (rw [hF]; simp; omega), by rw [hF]; exact (So.nil (Nat.zero_le _)), HH1.below⟩
  · have hV := validFrac_facts hc22
    refine wp_skip ?_
    refine nrm ?_
    refine wp_seq ?_
    refine rg ?_
    refine pl fun K_20 hK21 => ?_
    refine st_lit (m := 0) (cs := []) (e := 2) HE15 HH1 (run_lit ts_31 HE15 (vs := []) rfl rfl (by simp [Value.cells]) rfl (by decide)) (wt0 rfl) rfl rfl fun q23 a_22 w' HE23 HH24 => hK21 _ _ ?_
    refine pl_x HE23 HH24 (wt0 rfl) (x_assign rfl) rfl rfl fun a_25 HE26 => ?_
    refine wpList_nil ?_
    clear a_14 HE15 HH1 a_22 HE23 hK21 K_20
    refine nrm ?_
    refine wp_seq ?_
    refine wp_seq ?_
    refine rg ?_
    refine pl_x HE26 HH24 (wt0 rfl) (x_assign rfl) rfl rfl fun a_27 HE28 => ?_
    refine wpList_nil ?_
    clear a_25 HE26
    refine nrm ?_
    refine wp_block ?_
    have HH29 := Held.vecFlat (E := eInt) (xs := []) (css := []) HH24 rfl (Nat.zero_le _) (fun i x hx => by simp at hx)
    have HH30 := HH29.vecSo
    refine lp (fun m a w' => ∃ (k : Nat) (A_4 : Option Addr) (c_4 : Nat) (S_4 : Nat → Prop), m = a0.length - k ∧ Env 31 [(4, .slice A_4 (List.length (putsI [] (fpL (a0.take k)))) c_4), (5, .int .i64 (k : Int)), (0, .slice A0 (a0.length) c0)] a ∧ Held Nob w [rSo eInt S_4 A_4 c_4 (putsI [] (fpL (a0.take k)))] w' ∧ (k ≤ a0.length)) (a0.length - (0)) ?_ ?_
    · have E24 : putsI [] (fpL (a0.take 0)) = ([] : List Int) := by
        first | rfl | simp
      exact ⟨0, (some ⟨q23, 0, none⟩), (List.length (α := Int) []), (fun b => b = q23), rfl, HE28.sub ⟨(by rw [E24]; rfl), (lkI rfl (by first | rfl | omega | (simp [hc22]; done))), rfl, trivial⟩, ((HH30.sel [0] (by decide) rfl).to (by first | rfl | (rw [E24]; done) | (rw [E24]; rfl) | (simp only [E24]; done) | (simp only [E24]; rfl))), (by first | omega | assumption | (simp; done) | simp_all)⟩
    · rintro m a_31 w' ⟨k, A_4, c_4, S_4, rfl, HE32, HH33, p25_0⟩
      have ol := fpL_len (a0.take k)
      rw [List.length_take] at ol
      have ol2 : (fpL (a0.take k)).length ≤ 300000 := by omega
      have ol3 := putsI_len (fpL (a0.take k)) []
      simp only [List.length_nil, Nat.zero_add] at ol3
      refine wp_seq ?_
      refine wp_seq ?_
      refine rg ?_
      refine pl_x HE32 HH33 (wt0 rfl) (x_move rfl) rfl rfl fun a_34 HE35 => ?_
      refine pl_x HE35 HH33 (wt0 rfl) (x_move rfl) rfl rfl fun a_36 HE37 => ?_
      refine pl_x HE37 HH33 (wt0 rfl) (x_len Try.underlying66 rfl) rfl rfl fun a_38 HE39 => ?_
      refine pl_x HE39 HH33 (wt0 rfl) (x_lss rfl rfl) rfl rfl fun a_40 HE41 => ?_
      refine wpList_nil ?_
      clear HH24 HH29 a_27 HE28 HH30 a_31 HE32 a_34 HE35 a_36 HE37 a_38 HE39
      refine nrm ?_
      refine cnd_d HE41 rfl (fun hc26 => ?_) (fun hc26 => ?_)
      · refine wp_skip ?_
        refine nrm ?_
        refine wp_seq ?_
        refine wp_block ?_
        refine wp_seq ?_
        refine rg ?_
        refine pl_x HE41 HH33 (wt0 rfl) (x_move rfl) rfl rfl fun a_42 HE43 => ?_
        refine pl_x HE43 HH33 (wt0 rfl) (x_move rfl) rfl rfl fun a_44 HE45 => ?_
        refine pl_x HE45 HH33 (wt0 rfl) (x_move rfl) rfl rfl fun a_46 HE47 => ?_
        have ke27 : k < a0.length := by omega
        obtain ⟨be27, fe27, ese27, Ae27, Re27, De27⟩ := el_old h0 ke27
        obtain ⟨e27, xe27⟩ : ∃ x_, x_ = a0[k] := ⟨_, rfl⟩
        rw [← xe27] at Re27
        have Qe27 := Re27
        obtain ⟨rfl, ge27_0, ge27_1⟩ := shape_Fraction Re27
        have je27_0 := ge27_0; unfold I64 at je27_0
        have je27_1 := ge27_1; unfold I64 at je27_1
        have fe27 := hV.2 e27 (by rw [xe27]; exact List.getElem_mem _)
        have fae27 := primesI_len e27.1
        have fbe27 := primesI_len e27.2
        have fpe27 := putsP_len (putsI [] (fpL (a0.take k))) e27.1
        refine pl_x HE47 HH33 (wt0 rfl) (x_indexAddr ts_66 rfl rfl Ae27 rfl ke27) rfl rfl fun a_48 HE49 => ?_
        refine pl_x HE49 HH33 (wt0 rfl) (x_fieldAddr fa_159_0 rfl) rfl rfl fun a_50 HE51 => ?_
        refine pl_x HE51 HH33 (wt0 rfl) (x_load1 tv_2 rfl (c_old (De27 0 _ rfl))) rfl rfl fun a_52 HE53 => ?_
        refine pl fun K_54 hK55 => ?_
        have HH56 : Held Nob w ([rSo eInt S_4 A_4 c_4 (putsI [] (fpL (a0.take k)))] ++ []) _ := HH33
        refine st_call HE53 (wt0 rfl) rfl rfl rfl en_161 rfl rfl (spec_l08Primes (Foot [rSo eInt S_4 A_4 c_4 (putsI [] (fpL (a0.take k)))]) _ _ (putsI [] (fpL (a0.take k))) _ e27.1 _ HH56.focus (by omega) (by first | omega | (simp; done))) fun e w' hr => ?_
        obtain ⟨Ar28_90, cr28_90, Sr28_90, rfl, hbr28⟩ := hr
        have HH57 := HH56.back hbr28
        clear hbr28
        have HH58 : Held Nob w ([rSo eInt Sr28_90 Ar28_90 cr28_90 (putsP (putsI [] (fpL (a0.take k))) e27.1)] ++ []) _ := HH57
        refine ⟨_, rfl, fun a_59 HE60 => hK55 _ _ ?_⟩
        refine pl_x HE60 HH58 (wt0 rfl) (x_assign rfl) rfl rfl fun a_61 HE62 => ?_
        refine wpList_nil ?_
        clear a_40 HE41 a_42 HE43 a_44 HE45 a_46 HE47 a_48 HE49 a_50 HE51 HH33 HH56 HH57 a_52 HE53 a_59 HE60 hK55 K_54
        refine nrm ?_
        refine rg ?_
        refine pl_x HE62 HH58 (wt0 rfl) (x_move rfl) rfl rfl fun a_63 HE64 => ?_
        refine pl_x HE64 HH58 (wt0 rfl) (x_move rfl) rfl rfl fun a_65 HE66 => ?_
        refine pl_x HE66 HH58 (wt0 rfl) (x_move rfl) rfl rfl fun a_67 HE68 => ?_
        refine pl_x HE68 HH58 (wt0 rfl) (x_indexAddr ts_66 rfl rfl Ae27 rfl ke27) rfl rfl fun a_69 HE70 => ?_
        refine pl_x HE70 HH58 (wt0 rfl) (x_fieldAddr fa_159_1 rfl) rfl rfl fun a_71 HE72 => ?_
        refine pl_x HE72 HH58 (wt0 rfl) (x_load1 tv_2 rfl (c_old (De27 1 _ rfl))) rfl rfl fun a_73 HE74 => ?_
        refine pl fun K_75 hK76 => ?_
        have HH77 : Held Nob w ([rSo eInt Sr28_90 Ar28_90 cr28_90 (putsP (putsI [] (fpL (a0.take k))) e27.1)] ++ []) _ := HH58
        refine st_call HE74 (wt0 rfl) rfl rfl rfl en_161 rfl rfl (spec_l08Primes (Foot [rSo eInt Sr28_90 Ar28_90 cr28_90 (putsP (putsI [] (fpL (a0.take k))) e27.1)]) _ _ (putsP (putsI [] (fpL (a0.take k))) e27.1) _ e27.2 _ HH77.focus (by omega) (by first | omega | (simp; done))) fun e w' hr => ?_
        obtain ⟨Ar29_90, cr29_90, Sr29_90, rfl, hbr29⟩ := hr
        have HH78 := HH77.back hbr29
        clear hbr29
        have HH79 : Held Nob w ([rSo eInt Sr29_90 Ar29_90 cr29_90 (putsP (putsP (putsI [] (fpL (a0.take k))) e27.1) e27.2)] ++ []) _ := HH78
        refine ⟨_, rfl, fun a_80 HE81 => hK76 _ _ ?_⟩
        refine pl_x HE81 HH79 (wt0 rfl) (x_assign rfl) rfl rfl fun a_82 HE83 => ?_
        refine wpList_nil ?_
        clear a_61 HE62 a_63 HE64 a_65 HE66 a_67 HE68 a_69 HE70 a_71 HE72 HH58 HH77 HH78 a_73 HE74 a_80 HE81 hK76 K_75
        refine blk_n ?_
        refine nrm ?_
        refine rg ?_
        refine pl_x HE83 HH79 (wt0 rfl) (x_move rfl) rfl rfl fun a_84 HE85 => ?_
        refine pl_x HE85 HH79 (wt0 rfl) (x_add rfl rfl (by exact ⟨by omega, by omega⟩)) rfl rfl fun a_86 HE87 => ?_
        refine pl_x HE87 HH79 (wt0 rfl) (x_assign rfl) rfl rfl fun a_88 HE89 => ?_
        refine wpList_nil ?_
        clear a_82 HE83 a_84 HE85 a_86 HE87
        have E30 : putsI [] (fpL (a0.take (k + 1))) = (putsP (putsP (putsI [] (fpL (a0.take k))) e27.1) e27.2) := by
          rw [List.take_succ_eq_append_getElem (by omega), fpL_snoc, ← xe27, putsI_app, putsI_app]; rfl
        exact nrm ⟨a0.length - (k + 1), (by omega), k + 1, Ar29_90, cr29_90, Sr29_90, rfl, HE89.sub ⟨(by rw [E30]; rfl), (lkI rfl (by first | rfl | omega | (simp [hc22, p25_0, hc26, xe27]; done))), rfl, trivial⟩, ((HH79.sel [0] (by decide) rfl).to (by first | rfl | (rw [E30]; done) | (rw [E30]; rfl) | (simp only [E30]; done) | (simp only [E30]; rfl))), (by first | omega | assumption | (simp; done) | simp_all)⟩
      · refine wp_exit ?_
        refine (thn_exit (thn_exit (blk_hit ?_)))
        refine nrm ?_
        refine wp_seq ?_
        refine rg ?_
        refine pl_x HE41 HH33 (wt0 rfl) (x_move rfl) rfl rfl fun a_90 HE91 => ?_
        refine pl_x HE91 HH33 (wt0 rfl) (x_assign rfl) rfl rfl fun a_92 HE93 => ?_
        refine pl_x HE93 HH33 (wt0 rfl) (x_assign rfl) rfl rfl fun a_94 HE95 => ?_
        refine wpList_nil ?_
        clear a_40 HE41 a_90 HE91 a_92 HE93
        refine nrm ?_
        refine wp_ret ?_
        refine ret2 HE95 rfl (rv_tmp rfl) (rv_tmp rfl) ?_
        have hF : (fracPrimes a0) = (putsI [] (fpL (a0.take k)), 0) := by
          first | (simp [fracPrimes, hc22, p25_0, hc26]; done) | (unfold fracPrimes; rw [if_pos ‹_›, List.take_of_length_le (by omega)])
        exact ⟨A_4, c_4, by first | (rw [hF] <;> rfl) | rfl | (rw [hF]; simp only [Ending.returned.injEq, Value.slice.injEq, true_and, and_true]; first | omega | (simp; done)) | (rw [hF]; simp; omega), by rw [hF]; exact (HH33.so (i := 0) rfl), HH33.below⟩

end Go.Proofs.Ytnokeoejlfodkaa
