/- What the proof of FnKnown needs: contracts of the functions that it reaches, each once. -/
import Derived.Test.YtcfdkckchbdafaaGreatDoorProg
import Derived.Test.YtcfdkckchbdafaaGreatDoorQMem
import Derived.Test.YtcfdkckchbdafaaGreatDoorQOpen
import Derived.Test.YtcfdkckchbdafaaGreatDoorLFnKnowna
import Derived.WalkKit
import Derived.WalkSpells
import Derived.Below
import Derived.LoopTactic
import Derived.Outline
import Derived.Deep.QuietTactic
import Derived.BigQuiet
import Derived.Deep.LoopGhost
import Derived.Handy
import Derived.Lib.Hide
import Derived.Shelf.Abstract
import Derived.StillTailTactics
import Derived.OwnWalk
import Derived.Maps.AppendAt
import Derived.RegionTactic
import Derived.Deep.RegionHeld3
import Derived.IntWalk
import Derived.Deep.Upon
import Derived.Laws.OwnMore
import Derived.Maps.AppendAt
import Derived.Laws.BytesString
import Derived.Laws.Strings
import Derived.Lib.Bytes
import Derived.Lib.Strings
import Derived.Lib.FrozenHead
import Derived.Lib.RuneBytes
import Derived.Lib.LaidTab
import Derived.Laws.StructEq
import Derived.Lib.SliceRun
import Derived.Lib.AppendZeros
import Derived.Lib.ItoaLen
import Derived.Lib.Join
import Derived.Shelf.Strconv.Itoa4
import Derived.Shelf.Strings.OnBuilder
import Derived.Shelf.Strings.BuilderK
import Derived.Shelf.Strings.BuilderRune
import Derived.Shelf.LaysM
import Derived.Ground.NamesProg
import Derived.Lib.ParseIntBTie
import Derived.Lib.SplitLaws
import Derived.Lib.Replace
import Derived.Shelf.LaysC
import Derived.Shelf.Strconv.ErrVarParseInt
import Derived.Shelf.Strconv.ParseIntPublic10
import Derived.Shelf.Strings.Prefix
import Derived.Shelf.Strings.Cut
import Derived.Shelf.Strings.Split
import Derived.Shelf.Strings.Replace
import Derived.Shelf.Small.Wraps
import Derived.Stop.IfaceNil
namespace Go.Proofs.YtcfdkckchbdafaaGreatDoor
open Go.RowKit

theorem Held.lendM {M : Nat → Prop} {w0 : World} {xs rs : List Res} {w : World} {α : Type} {E : Enc α} {A : Option Addr} {c : Nat} {zs : List α} (h : Held M w0 (xs ++ rs) w) (hs : Sl E w0 (Out M w0) A c zs) : Sl E w (Out (Foot xs) w) A c zs :=
  (hs.keep (fun p hp => h.cell0 hp.1 hp.2)).more fun b hb => ⟨Nat.lt_of_lt_of_le hb.1 h.size, by
    rintro ⟨r, hr, hb'⟩
    rcases (h.rng r (by simp [hr]) b hb').1 with q | q
    · exact hb.2 q
    · have : b < w0.heap.size := hb.1
      omega⟩

/-- A part that is owned, as a callee that rewrites other parts sees it. -/
theorem Held.lendR {M : Nat → Prop} {w0 : World} {xs rs : List Res} {w : World} {α : Type} {E : Enc α} {S : Nat → Prop} {cs : List Value} {x : α} (h : Held M w0 (xs ++ rs) w) {i : Nat} (hi : rs[i]? = some (rO E S cs x)) : E.R w (Out (Foot xs) w) cs x :=
  E.more (E.read (h.ok _ (List.mem_append_right _ (List.mem_of_getElem? hi)))) fun b hb => ⟨(h.rng _ (List.mem_append_right _ (List.mem_of_getElem? hi)) b hb).2, by
    rintro ⟨r, hr, hb'⟩
    exact (List.pairwise_append.1 h.sep).2.2 r hr _ (List.mem_of_getElem? hi) b hb' hb⟩

theorem Held.lendO {w0 : World} {xs rs : List Res} {w : World} {α : Type} {E : Enc α} {cs : List Value} {x : α} (h : Held Nob w0 (xs ++ rs) w) (hs : E.R w0 (Old w0) cs x) : E.R w (Out (Foot xs) w) cs x :=
  E.more (E.keep hs (fun p hp => h.cell0 hp fun h => h)) fun b hb => ⟨Nat.lt_of_lt_of_le hb h.size, by
    rintro ⟨r, hr, hb'⟩
    rcases (h.rng r (by simp [hr]) b hb').1 with q | q
    · exact q.elim
    · have : b < w0.heap.size := hb
      omega⟩

theorem Held.lendOM {M : Nat → Prop} {w0 : World} {xs rs : List Res} {w : World} {α : Type} {E : Enc α} {cs : List Value} {x : α} (h : Held M w0 (xs ++ rs) w) (hs : E.R w0 (Out M w0) cs x) : E.R w (Out (Foot xs) w) cs x :=
  E.more (E.keep hs (fun p hp => h.cell0 hp.1 hp.2)) fun b hb => ⟨Nat.lt_of_lt_of_le hb.1 h.size, by
    rintro ⟨r, hr, hb'⟩
    rcases (h.rng r (by simp [hr]) b hb').1 with q | q
    · exact hb.2 q
    · have : b < w0.heap.size := hb.1
      omega⟩

theorem Held.nfB {M : Nat → Prop} {w0 : World} {xs rs : List Res} {w : World} (h : Held M w0 (xs ++ rs) w) {i g : Nat} {t : TypeId} {cs : List Value} (hi : rs[i]? = some (rBlk g t cs)) : ¬ Foot xs g := by
  rintro ⟨r, hr, hb'⟩
  exact (List.pairwise_append.1 h.sep).2.2 r hr _ (List.mem_of_getElem? hi) g hb' rfl

theorem block_of_cell {w : World} {b o : Nat} {v : Value} (h : w.cell? ⟨b, o, none⟩ = some v) : b < w.heap.size := by
  rcases Nat.lt_or_ge b w.heap.size with h1 | h1
  · exact h1
  · exfalso
    unfold World.cell? at h
    simp [Array.getElem?_eq_none h1] at h

theorem Held.nfO {w0 : World} {xs rs : List Res} {w : World} (h : Held Nob w0 (xs ++ rs) w) {b o : Nat} {v : Value} (hc : w0.cell? ⟨b, o, none⟩ = some v) : ¬ Foot xs b := by
  rintro ⟨r, hr, hb'⟩
  rcases (h.rng r (by simp [hr]) b hb').1 with q | q
  · exact q.elim
  · have := block_of_cell hc
    omega

theorem Held.nfOM {M : Nat → Prop} {w0 : World} {xs rs : List Res} {w : World} (h : Held M w0 (xs ++ rs) w) {b o : Nat} {v : Value} (hM : ¬ M b) (hc : w0.cell? ⟨b, o, none⟩ = some v) : ¬ Foot xs b := by
  rintro ⟨r, hr, hb'⟩
  rcases (h.rng r (by simp [hr]) b hb').1 with q | q
  · exact hM q
  · have := block_of_cell hc
    omega

theorem c_oldM {M : Nat → Prop} {w0 : World} {rs : List Res} {b o : Nat} {v : Value} (hM : ¬ M b) (hc : w0.cell? ⟨b, o, none⟩ = some v) : ∀ w, Held M w0 rs w → w.cell? ⟨b, o, none⟩ = some v := fun w h => by
  rw [h.cell0 (lt_of_cell hc) hM]; exact hc

theorem c_oldNM {M : Nat → Prop} {w0 : World} {rs : List Res} {b o : Nat} {cs : List Value} (hM : ¬ M b) (hc : ∀ j v, cs[j]? = some v → w0.cell? ⟨b, o + j, none⟩ = some v) : ∀ w, Held M w0 rs w → ∀ j v, cs[j]? = some v → w.cell? ⟨b, o + j, none⟩ = some v := fun w h j v hv => c_oldM hM (hc j v hv) w h

/-- The flat part in front given up. -/
theorem Held.unF {M : Nat → Prop} {w0 : World} {rs : List Res} {w : World} {α β : Type} {E : Enc α} {F : Enc β} {S : Nat → Prop} {v : Value} {cs : List Value} {x : α × β} (h1 : E.size = 1) (h : Held M w0 (rO (ePr E F) S (v :: cs) x :: rs) w) : Held M w0 (rO F S cs x.2 :: rs) w := by
  refine h.turn _ ?_ fun _ hb => hb
  rintro ⟨c1, c2, S1, S2, he, k1, k2, o1, o2⟩
  have hl := E.len (E.read o1)
  rw [h1] at hl
  obtain ⟨u, rfl⟩ := List.length_eq_one_iff.1 hl
  simp at he
  obtain ⟨_, rfl⟩ := he
  exact F.omore o2 k2

theorem Held.unP {M : Nat → Prop} {w0 : World} {rs : List Res} {w : World} {α β : Type} {E : Enc α} {F : Enc β} {S : Nat → Prop} {v : Value} {cs : List Value} {x : α × β} (h1 : E.size = 1) (h : Held M w0 (rO (ePr E F) S (v :: cs) x :: rs) w) : ∃ S1 S2, Held M w0 (rO E S1 [v] x.1 :: rO F S2 cs x.2 :: rs) w := by
  obtain ⟨c1, c2, S1, S2, he, k1, k2, o1, o2⟩ := h.ok _ (List.mem_cons_self)
  have hl := E.len (E.read o1)
  rw [h1] at hl
  obtain ⟨u, rfl⟩ := List.length_eq_one_iff.1 hl
  simp at he
  obtain ⟨rfl, rfl⟩ := he
  have hs := List.pairwise_cons.1 h.sep
  refine ⟨S1, S2, h.chg, ?_, ?_, ?_⟩
  · intro r hr
    simp only [List.mem_cons] at hr
    rcases hr with rfl | rfl | hr
    · exact o1
    · exact o2
    · exact h.ok r (by simp [hr])
  · intro r hr b hb
    simp only [List.mem_cons] at hr
    rcases hr with rfl | rfl | hr
    · exact h.rng _ (List.mem_cons_self) b (k1 b hb).1
    · exact h.rng _ (List.mem_cons_self) b (k2 b hb)
    · exact h.rng r (by simp [hr]) b hb
  · refine List.pairwise_cons.2 ⟨fun r hr b hb hb' => ?_, List.pairwise_cons.2 ⟨fun r hr b hb hb' => hs.1 r hr b (k2 b hb) hb', hs.2⟩⟩
    rcases List.mem_cons.1 hr with rfl | hr
    · exact (k1 b hb).2 hb'
    · exact hs.1 r hr b (k1 b hb).1 hb'

/-- An owned slice with one element laid open: its cells es; what the element owns (T) is held apart. -/
def Foc {α : Type} (E : Enc α) (w : World) (S : Nat → Prop) (b off c : Nat) (xs : List α) (k : Nat) (es : List Value) : Prop :=
  k < xs.length ∧ xs.length ≤ c ∧ c ≤ maxLen ∧ S b ∧ es.length = E.size ∧ ∃ (t : TypeId) (cur : Array Value) (T : Nat → Nat → Prop), Blk w b t cur ∧ (∀ i m, T i m → S m ∧ m ≠ b) ∧ (∀ i j m, T i m → T j m → i = j) ∧
    (∀ j v, es[j]? = some v → cur[off + k * E.size + j]? = some v) ∧ ∀ (i : Nat) (x : α), i ≠ k → xs[i]? = some x → ∃ us, E.O w (T i) us x ∧ ∀ j v, us[j]? = some v → cur[off + i * E.size + j]? = some v

theorem Foc.keep {α : Type} {E : Enc α} {w w' : World} {S : Nat → Prop} {b off c : Nat} {xs : List α} {k : Nat} {es : List Value} (h : Foc E w S b off c xs k es) (hk : ∀ b, S b → w'.heap[b]? = w.heap[b]?) : Foc E w' S b off c xs k es := by
  obtain ⟨h1, h2, h3, h4, h5, t, cur, T, hB, hT, hd, hc, hr⟩ := h
  refine ⟨h1, h2, h3, h4, h5, t, cur, T, (hk b h4).trans hB, hT, hd, hc, fun i x hi hx => ?_⟩
  obtain ⟨us, q1, q2⟩ := hr i x hi hx
  exact ⟨us, E.okeep q1 fun m hm => hk m (hT i m hm).1, q2⟩

def rFoc {α : Type} (E : Enc α) (S : Nat → Prop) (b off c : Nat) (xs : List α) (k : Nat) (es : List Value) : Res := ⟨S, fun w => Foc E w S b off c xs k es, fun _ _ h hf => hf.keep h⟩

theorem Held.open {M : Nat → Prop} {w0 : World} {rs : List Res} {w : World} {α : Type} {E : Enc α} {S : Nat → Prop} {A : Option Addr} {c : Nat} {xs : List α} (h : Held M w0 (rSo E S A c xs :: rs) w) {k : Nat} (hk : k < xs.length) :
    ∃ b off es T, A = some ⟨b, off, none⟩ ∧ E.R w (Old w) es xs[k] ∧ (∀ m, T m → S m ∧ m ≠ b) ∧ Held M w0 (rFoc E (fun m => S m ∧ ¬ T m) b off c xs k es :: rO E T es xs[k] :: rs) w := by
  have hso := so_of_o (h.ok _ (List.mem_cons_self))
  have hrng := h.rng _ (List.mem_cons_self)
  obtain ⟨b, off, t, cur, T, hA, hb, hB, hT, hd, hc⟩ := hso.2.2 (by intro e; subst e; simp at hk)
  obtain ⟨es, h1, h2⟩ := hc k xs[k] (List.getElem?_eq_getElem hk)
  have hs := List.pairwise_cons.1 h.sep
  refine ⟨b, off, es, T k, hA, E.more (E.read h1) (fun m hm => (hrng m (hT k m hm).1).2), fun m hm => hT k m hm, h.chg, ?_, ?_, ?_⟩
  · intro r hr
    simp only [List.mem_cons] at hr
    rcases hr with rfl | rfl | hr
    · refine ⟨hk, hso.1, hso.2.1, ⟨hb, fun hm => (hT k b hm).2 rfl⟩, E.len (E.read h1), t, cur, fun i m => i ≠ k ∧ T i m, hB, fun i m hm => ⟨⟨(hT i m hm.2).1, fun hm' => hm.1 (hd i k m hm.2 hm')⟩, (hT i m hm.2).2⟩, fun i j m h3 h4 => hd i j m h3.2 h4.2, h2, fun i x hi hx => ?_⟩
      obtain ⟨us, q1, q2⟩ := hc i x hx
      exact ⟨us, E.omore q1 fun m hm => ⟨hi, hm⟩, q2⟩
    · exact h1
    · exact h.ok r (by simp [hr])
  · intro r hr m hm
    simp only [List.mem_cons] at hr
    rcases hr with rfl | rfl | hr
    · exact hrng m hm.1
    · exact hrng m (hT k m hm).1
    · exact h.rng r (by simp [hr]) m hm
  · refine List.pairwise_cons.2 ⟨fun r hr m hm hm' => ?_, List.pairwise_cons.2 ⟨fun r hr m hm hm' => hs.1 r hr m (hT k m hm).1 hm', hs.2⟩⟩
    rcases List.mem_cons.1 hr with rfl | hr
    · exact hm.2 hm'
    · exact hs.1 r hr m hm.1 hm'

theorem Held.shut {M : Nat → Prop} {w0 : World} {rs : List Res} {w : World} {α : Type} {E : Enc α} {S T : Nat → Prop} {b off c k : Nat} {xs : List α} {es : List Value} {y : α} (h : Held M w0 (rFoc E S b off c xs k es :: rO E T es y :: rs) w) : Held M w0 (rSo E (fun m => S m ∨ T m) (some ⟨b, off, none⟩) c (xs.set k y) :: rs) w := by
  refine h.join _ (fun hf ho hd => ?_) fun _ hb => hb
  obtain ⟨h1, h2, h3, h4, h5, t, cur, T', hB, hT, hd', hc, hr⟩ := hf
  refine oSl ⟨by rw [List.length_set]; exact h2, h3, fun _ => ⟨b, off, t, cur, fun i m => (i = k ∧ T m) ∨ (i ≠ k ∧ T' i m), rfl, .inl h4, hB, ?_, ?_, fun i x hx => ?_⟩⟩
  · rintro i m (⟨_, hm⟩ | ⟨_, hm⟩)
    · exact ⟨.inr hm, fun e => hd b h4 (e ▸ hm)⟩
    · exact ⟨.inl (hT i m hm).1, (hT i m hm).2⟩
  · rintro i j m (⟨hi, hm⟩ | ⟨hi, hm⟩) (⟨hj, hm'⟩ | ⟨hj, hm'⟩)
    · rw [hi, hj]
    · exact absurd hm (hd m (hT j m hm').1)
    · exact absurd hm' (hd m (hT i m hm).1)
    · exact hd' i j m hm hm'
  · by_cases e : i = k
    · subst e
      rw [List.getElem?_set_self h1] at hx
      simp at hx; subst hx
      exact ⟨es, E.omore ho fun m hm => .inl ⟨rfl, hm⟩, hc⟩
    · rw [List.getElem?_set_ne (fun h => e h.symm)] at hx
      obtain ⟨us, q1, q2⟩ := hr i x e hx
      exact ⟨us, E.omore q1 fun m hm => .inr ⟨e, hm⟩, q2⟩

theorem c_ownV {M : Nat → Prop} {w0 : World} {rs : List Res} {S : Nat → Prop} {b off c k : Nat} {xs : List Int} {y : Int} (i : Nat) (hi : rs[i]? = some (rSo eInt S (some ⟨b, off, none⟩) c xs)) (hk : k < xs.length) (hy : xs[k] = y) : ∀ w, Held M w0 rs w → w.cell? ⟨b, off + k * 1, none⟩ = some (.int .i64 y) := fun w h => by
  rw [← hy]; exact c_ownI i hi hk w h

theorem Held.relen {M : Nat → Prop} {w0 : World} {rs : List Res} {w : World} {α : Type} {E : Enc α} {S : Nat → Prop} {A : Option Addr} {c n : Nat} {xs : List α} (h : Held M w0 (rSo E S A c xs :: rs) w) (hn : xs.length = n) : Held M w0 (rO (eSl E) S [.slice A n c] xs :: rs) w := hn ▸ h

theorem Held.lt {M : Nat → Prop} {w0 : World} {rs : List Res} {w : World} (h : Held M w0 rs w) {i : Nat} {r : Res} (hi : rs[i]? = some r) : ∀ b, r.S b → b < w.heap.size := fun b hb => (h.rng r (List.mem_of_getElem? hi) b hb).2

/-- What a callee made, beside what is held. -/
theorem Held.app {M : Nat → Prop} {w0 : World} {rs qs : List Res} {w w' : World} (h : Held M w0 rs w) (h' : Held Nob w qs w') : Held M w0 (qs ++ rs) w' where
  chg := (h.on h'.below).chg
  ok := by
    intro r hr
    rcases List.mem_append.1 hr with hr | hr
    · exact h'.ok r hr
    · exact (h.on h'.below).ok r hr
  rng := by
    intro r hr b hb
    rcases List.mem_append.1 hr with hr | hr
    · have h1 := h'.rng r hr b hb
      exact ⟨.inr (Nat.le_trans h.size (h1.1.resolve_left fun q => q.elim)), h1.2⟩
    · exact (h.on h'.below).rng r hr b hb
  sep := by
    refine List.pairwise_append.2 ⟨h'.sep, h.sep, fun r hr s hs b hb hb' => ?_⟩
    have h1 := (h'.rng r hr b hb).1.resolve_left fun q => q.elim
    have h2 := (h.rng s hs b hb').2
    omega

/-- Held only if p holds. -/
def rIf (p : Prop) (r : Res) : Res := ⟨r.S, fun w => p → r.φ w, fun w w' h hp hq => r.loc w w' h (hp hq)⟩

theorem Held.toIf {M : Nat → Prop} {w0 : World} {rs : List Res} {r : Res} {w : World} (h : Held M w0 (r :: rs) w) (p : Prop) : Held M w0 (rIf p r :: rs) w :=
  h.turn (rIf p r) (fun hr _ => hr) fun _ h => h

theorem Held.ofIf {M : Nat → Prop} {w0 : World} {rs : List Res} {r : Res} {w : World} {p : Prop} (h : Held M w0 (rIf p r :: rs) w) (hp : p) : Held M w0 (r :: rs) w :=
  h.turn r (fun hr => hr hp) fun _ h => h

theorem Held.noIf {M : Nat → Prop} {w0 : World} {rs : List Res} {w : World} {p : Prop} (h : Held M w0 rs w) {α : Type} {E : Enc α} {A : Option Addr} {c : Nat} {xs : List α} (r : Res) (hp : ¬ p) (hr : r = rSo E Nob A c xs := by rfl) : Held M w0 (rIf p r :: rs) w := by
  subst hr
  exact h.new (Below.refl _ _) (rIf p (rSo E Nob A c xs)) (fun hq => absurd hq hp) fun _ h => h.elim

/-- n cells, as they are. -/
def eRaw (n : Nat) (hn : 0 < n) : Enc (List Value) where
  size := n
  pos := hn
  R := fun _ _ cs x => cs = x ∧ x.length = n ∧ ∀ v ∈ x, v.oneCell' = true
  len := by rintro _ _ _ _ ⟨rfl, h, _⟩; exact h
  keep := fun h _ => h
  more := fun h _ => h
  O := fun _ _ cs x => cs = x ∧ x.length = n ∧ ∀ v ∈ x, v.oneCell' = true
  read := fun h => h
  okeep := fun h _ => h
  omore := fun h _ => h

/-- What the elements own, each for itself. -/
def Els {α : Type} (E : Enc α) (w : World) : (Nat → Prop) → List (List Value × α) → Prop
  | _, [] => True
  | S, p :: ps => ∃ S1 S2 : Nat → Prop, (∀ b, S1 b → S b ∧ ¬ S2 b) ∧ (∀ b, S2 b → S b) ∧ E.O w S1 p.1 p.2 ∧ Els E w S2 ps

theorem Els.keep {α : Type} {E : Enc α} {w w' : World} : ∀ {ps : List (List Value × α)} {S : Nat → Prop}, Els E w S ps → (∀ b, S b → w'.heap[b]? = w.heap[b]?) → Els E w' S ps
  | [], _, _, _ => trivial
  | _ :: _, _, ⟨S1, S2, h1, h2, h3, h4⟩, hk => ⟨S1, S2, h1, h2, E.okeep h3 fun b hb => hk b (h1 b hb).1, Els.keep h4 fun b hb => hk b (h2 b hb)⟩

theorem Els.more {α : Type} {E : Enc α} {w : World} : ∀ {ps : List (List Value × α)} {S S' : Nat → Prop}, Els E w S ps → (∀ b, S b → S' b) → Els E w S' ps
  | [], _, _, _, _ => trivial
  | _ :: _, _, _, ⟨S1, S2, h1, h2, h3, h4⟩, hm => ⟨S1, S2, fun b hb => ⟨hm b (h1 b hb).1, (h1 b hb).2⟩, fun b hb => hm b (h2 b hb), h3, h4⟩

theorem Els.perm {α : Type} {E : Enc α} {w : World} {ps qs : List (List Value × α)} (h : ps.Perm qs) : ∀ S, Els E w S ps → Els E w S qs := by
  induction h with
  | nil => exact fun _ h => h
  | cons p _ ih => rintro S ⟨S1, S2, h1, h2, h3, h4⟩; exact ⟨S1, S2, h1, h2, h3, ih _ h4⟩
  | swap p q ps =>
    rintro S ⟨S1, S2, h1, h2, h3, S3, S4, h5, h6, h7, h8⟩
    refine ⟨S3, fun b => S1 b ∨ S4 b, fun b hb => ⟨h2 b (h5 b hb).1, ?_⟩, ?_, h7, S1, S4, fun b hb => ⟨.inl hb, fun h => (h1 b hb).2 (h6 b h)⟩, fun b hb => .inr hb, h3, h8⟩
    · rintro (h | h)
      · exact (h1 b h).2 (h5 b hb).1
      · exact (h5 b hb).2 h
    · rintro b (h | h)
      · exact (h1 b h).1
      · exact h2 b (h6 b h)
  | trans _ _ i1 i2 => exact fun S h => i2 S (i1 S h)

theorem els_of {α : Type} {E : Enc α} {w : World} : ∀ (ps : List (List Value × α)) (T : Nat → Nat → Prop), (∀ i j b, T i b → T j b → i = j) → (∀ i p, ps[i]? = some p → E.O w (T i) p.1 p.2) → Els E w (fun b => ∃ i, T i b) ps
  | [], _, _, _ => trivial
  | p :: ps, T, hd, h => ⟨T 0, fun b => ∃ i, T (i + 1) b, fun b hb => ⟨⟨0, hb⟩, fun ⟨i, hi⟩ => by have := hd _ _ _ hb hi; omega⟩, fun b ⟨i, hi⟩ => ⟨i + 1, hi⟩, h 0 p rfl, els_of ps (fun i => T (i + 1)) (fun i j b h1 h2 => by have := hd _ _ _ h1 h2; omega) fun i q hq => h (i + 1) q (by simpa using hq)⟩

theorem els_fam {α : Type} {E : Enc α} {w : World} : ∀ (ps : List (List Value × α)) (S : Nat → Prop), Els E w S ps → ∃ T : Nat → Nat → Prop, (∀ i b, T i b → S b) ∧ (∀ i j b, T i b → T j b → i = j) ∧ ∀ i p, ps[i]? = some p → E.O w (T i) p.1 p.2
  | [], _, _ => ⟨fun _ _ => False, fun _ _ h => h.elim, fun _ _ _ h => h.elim, fun i p h => by simp at h⟩
  | p :: ps, S, ⟨S1, S2, h1, h2, h3, h4⟩ => by
    obtain ⟨T, t1, t2, t3⟩ := els_fam ps S2 h4
    refine ⟨fun i => match i with | 0 => S1 | i + 1 => T i, fun i b hb => ?_, fun i j b hi hj => ?_, fun i q hq => ?_⟩
    · cases i with
      | zero => exact (h1 b hb).1
      | succ i => exact h2 b (t1 i b hb)
    · cases i with
      | zero =>
        cases j with
        | zero => rfl
        | succ j => exact absurd (t1 j b hj) (h1 b hi).2
      | succ i =>
        cases j with
        | zero => exact absurd (t1 i b hi) (h1 b hj).2
        | succ j => rw [t2 i j b hi hj]
    · cases i with
      | zero => simp at hq; subst hq; exact h3
      | succ i => exact t3 i q (by simpa using hq)

def rEls {α : Type} (E : Enc α) (S : Nat → Prop) (ps : List (List Value × α)) : Res := ⟨S, fun w => Els E w S ps, fun _ _ h hv => hv.keep h⟩

/-- One part becomes two. -/
theorem Held.cleave {M : Nat → Prop} {w0 : World} {r : Res} {rs : List Res} {w : World} (h : Held M w0 (r :: rs) w) (p q : Res) (hp : p.φ w) (hq : q.φ w) (h1 : ∀ b, p.S b → r.S b) (h2 : ∀ b, q.S b → r.S b) (hd : ∀ b, p.S b → ¬ q.S b) : Held M w0 (p :: q :: rs) w where
  chg := h.chg
  ok := by
    intro x hx
    rcases List.mem_cons.1 hx with rfl | hx
    · exact hp
    rcases List.mem_cons.1 hx with rfl | hx
    · exact hq
    exact h.ok x (by simp [hx])
  rng := by
    intro x hx b hb
    rcases List.mem_cons.1 hx with rfl | hx
    · exact h.rng r (by simp) b (h1 b hb)
    rcases List.mem_cons.1 hx with rfl | hx
    · exact h.rng r (by simp) b (h2 b hb)
    exact h.rng x (by simp [hx]) b hb
  sep := by
    have hs := List.pairwise_cons.1 h.sep
    refine List.pairwise_cons.2 ⟨fun x hx b hb hb' => ?_, List.pairwise_cons.2 ⟨fun x hx b hb hb' => hs.1 x hx b (h2 b hb) hb', hs.2⟩⟩
    rcases List.mem_cons.1 hx with rfl | hx
    · exact hd b hb hb'
    · exact hs.1 x hx b (h1 b hb) hb'

/-- A row taken apart. -/
theorem Held.explode {M : Nat → Prop} {w0 : World} {rs : List Res} {w : World} {α : Type} {E : Enc α} {t : TypeId} {S : Nat → Prop} {A : Option Addr} {c : Nat} {xs : List α} (h : Held M w0 (rVec E t S A c xs :: rs) w) (h1 : ∀ w S es x, E.R w S es x → ∀ v ∈ es, v.oneCell' = true) :
    ∃ css S1 S2, List.length css = xs.length ∧ Held M w0 (rVec (eRaw E.size E.pos) t S1 A c css :: rEls E S2 (css.zip xs) :: rs) w := by
  obtain ⟨css, T, hl, ho, hb, hT, hd, hx⟩ := (h.ok _ List.mem_cons_self : Vec E t w S (.slice A xs.length c) xs)
  refine ⟨css, fun b => Value.ownBlock (.slice A xs.length c) = some b, fun b => ∃ i, T i b, hl, h.cleave _ _ ?_ ?_ (fun b hb' => hb b hb') (fun b ⟨i, hi⟩ => (hT i b hi).1) (fun b hb' ⟨i, hi⟩ => (hT i b hi).2 hb')⟩
  · show Vec (eRaw E.size E.pos) t w _ (.slice A css.length c) css
    rw [hl]
    refine ⟨css, fun _ _ => False, rfl, ?_, fun b hb' => hb', fun _ _ h => h.elim, fun _ _ _ h => h.elim, fun i x hi => ⟨x, hi, rfl, ?_⟩⟩
    · rw [hl]; exact ho
    · have hi' := (List.getElem?_eq_some_iff.1 hi).1
      obtain ⟨es, h2, h3⟩ := hx i xs[i] (List.getElem?_eq_getElem (by omega))
      rw [h2] at hi
      obtain rfl := Option.some.inj hi
      exact ⟨E.len (E.read h3), h1 _ _ _ _ (E.read h3)⟩
  · refine els_of _ T hd fun i p hp => ?_
    rw [List.getElem?_zip_eq_some] at hp
    obtain ⟨es, h2, h3⟩ := hx i p.2 hp.2
    rw [h2] at hp
    rw [← Option.some.inj hp.1]; exact h3

/-- .. and put together again. -/
theorem Held.implode {M : Nat → Prop} {w0 : World} {rs : List Res} {w : World} {α : Type} {E : Enc α} {t : TypeId} {S1 S2 : Nat → Prop} {A : Option Addr} {c : Nat} {css : List (List Value)} {xs : List α} {ps : List (List Value × α)} (h : Held M w0 (rVec (eRaw E.size E.pos) t S1 A c css :: rEls E S2 ps :: rs) w) (hl : css.length = xs.length) (hp : ps.Perm (css.zip xs)) :
    ∃ S, Held M w0 (rVec E t S A c xs :: rs) w := by
  refine ⟨fun b => S1 b ∨ S2 b, h.join _ (fun h1 h2 hd => ?_) fun _ hb => hb⟩
  obtain ⟨css', T', hl', ho, hb, _, _, hx⟩ := (h1 : Vec (eRaw E.size E.pos) t w S1 (.slice A css.length c) css)
  have e : css' = css := List.ext_getElem? fun i => by
    rcases Nat.lt_or_ge i css.length with hi | hi
    · obtain ⟨es, h3, h4⟩ := hx i css[i] (List.getElem?_eq_getElem hi)
      rw [h3, List.getElem?_eq_getElem hi, h4.1]
    · rw [List.getElem?_eq_none (by omega), List.getElem?_eq_none hi]
  subst e
  obtain ⟨T, t1, t2, t3⟩ := els_fam _ _ (Els.perm hp _ (h2 : Els E w S2 ps))
  show Vec E t w _ (.slice A xs.length c) xs
  rw [hl] at ho hb
  refine ⟨css', T, hl, ho, fun b hb' => .inl (hb b hb'), fun i b hi => ⟨.inr (t1 i b hi), fun hb' => hd b (hb b hb') (t1 i b hi)⟩, t2, fun i x hi => ?_⟩
  have hi' := (List.getElem?_eq_some_iff.1 hi).1
  have hc : css'[i]? = some css'[i] := List.getElem?_eq_getElem (by omega)
  exact ⟨css'[i], hc, t3 i (css'[i], x) (List.getElem?_zip_eq_some.2 ⟨hc, hi⟩)⟩

/-- The first element's memory, for itself. -/
theorem Held.peel {M : Nat → Prop} {w0 : World} {rs : List Res} {w : World} {α : Type} {E : Enc α} {S : Nat → Prop} {p : List Value × α} {ps : List (List Value × α)} (h : Held M w0 (rEls E S (p :: ps) :: rs) w) : ∃ S1 S2, Held M w0 (rO E S1 p.1 p.2 :: rEls E S2 ps :: rs) w := by
  obtain ⟨S1, S2, h1, h2, h3, h4⟩ := (h.ok _ List.mem_cons_self : Els E w S (p :: ps))
  exact ⟨S1, S2, h.cleave (rO E S1 p.1 p.2) (rEls E S2 ps) h3 h4 (fun b hb => (h1 b hb).1) h2 fun b hb => (h1 b hb).2⟩

theorem Held.unpeel {M : Nat → Prop} {w0 : World} {rs : List Res} {w : World} {α : Type} {E : Enc α} {S1 S2 : Nat → Prop} {p : List Value × α} {ps : List (List Value × α)} (h : Held M w0 (rO E S1 p.1 p.2 :: rEls E S2 ps :: rs) w) : ∃ S, Held M w0 (rEls E S (p :: ps) :: rs) w :=
  ⟨fun b => S1 b ∨ S2 b, h.join (rEls E _ (p :: ps)) (fun h1 h2 hd => ⟨S1, S2, fun b hb => ⟨.inl hb, hd b hb⟩, fun b hb => .inr hb, h1, h2⟩) fun _ hb => hb⟩

theorem Held.elsPerm {M : Nat → Prop} {w0 : World} {rs : List Res} {w : World} {α : Type} {E : Enc α} {S : Nat → Prop} {ps qs : List (List Value × α)} (h : Held M w0 (rEls E S ps :: rs) w) (hp : ps.Perm qs) : Held M w0 (rEls E S qs :: rs) w :=
  h.turn (rEls E S qs) (fun h1 => Els.perm hp _ h1) fun _ hb => hb

abbrev bs (l : List UInt8) : ByteArray := ⟨l.toArray⟩

theorem bs_size (l : List UInt8) : (bs l).size = l.length := by simp [bs, ByteArray.size]

theorem bs_toList (l : List UInt8) : (bs l).toList = l := by rw [Go.Lib.toList_data]

theorem bs_app (a b : List UInt8) : bs a ++ bs b = bs (a ++ b) := by
  rw [ByteArray.mk_append_mk]

theorem bs_eta (s : ByteArray) : bs s.data.toList = s := by cases s; simp

/-- A byte of a row of bytes. -/
def eByte : Enc Int where
  size := 1
  pos := Nat.zero_lt_one
  R := fun _ _ cs x => cs = [.int .u8 x] ∧ 0 ≤ x ∧ x ≤ 255
  len := by rintro _ _ _ _ ⟨rfl, _⟩; rfl
  keep := fun h _ => h
  more := fun h _ => h
  O := fun _ _ cs x => cs = [.int .u8 x] ∧ 0 ≤ x ∧ x ≤ 255
  read := fun h => h
  okeep := fun h _ => h
  omore := fun h _ => h

/-- A text. -/
def eTxt : Enc (List UInt8) where
  size := 1
  pos := Nat.zero_lt_one
  R := fun _ _ cs x => cs = [.string (bs x)] ∧ x.length ≤ 9223372036854775807
  len := by rintro _ _ _ _ ⟨rfl, _⟩; rfl
  keep := fun h _ => h
  more := fun h _ => h
  O := fun _ _ cs x => cs = [.string (bs x)] ∧ x.length ≤ 9223372036854775807
  read := fun h => h
  okeep := fun h _ => h
  omore := fun h _ => h

theorem oS {w : World} {S : Nat → Prop} {x : List UInt8} (h : x.length ≤ 9223372036854775807) : eTxt.O w S [.string (bs x)] x := ⟨rfl, h⟩

theorem x_sadd {P : Program} {S : World → Prop} {L : List (Nat × Value)} {d : Option Tmp} {t t' : TypeId} {x y : Operand} {m k : List UInt8} {ty : TypeId} {pos : String} {af : Array Edge} {g : Option (Nat × Bool)} (hx : ev L x = some (.string (bs m))) (hy : ev L y = some (.string (bs k))) (h : m.length + k.length ≤ 9223372036854775807) : XS P S L ⟨d, .binOp .add t x y t', ty, pos, af, g⟩ (.string (bs (m ++ k))) := fun _ _ _ hE _ => by
  have e : ¬ (((bs m).size + (bs k).size : Nat) : Int) > IntKind.i64.max := by
    rw [bs_size, bs_size]; show ¬ _ > (9223372036854775807 : Int); omega
  simp only [execOp, hE.ev hx, hE.ev hy, eqGuard, binOp, Op.stringOp, if_neg e, bs_app]; rfl

theorem beq_dec (m k : List UInt8) : (m == k) = decide (m = k) := by
  by_cases h : m = k <;> simp [h]

theorem x_sneqB {P : Program} {S : World → Prop} {L : List (Nat × Value)} {d : Option Tmp} {t t' : TypeId} {x y : Operand} {m k : List UInt8} {ty : TypeId} {pos : String} {af : Array Edge} {g : Option (Nat × Bool)} (hx : ev L x = some (.string (bs m))) (hy : ev L y = some (.string (bs k))) : XS P S L ⟨d, .binOp .neq t x y t', ty, pos, af, g⟩ (.bool (!decide (m = k))) := by
  have := x_sneq (P := P) (S := S) (d := d) (t := t) (t' := t') (ty := ty) (pos := pos) (af := af) (g := g) hx hy
  rwa [bs_toList, bs_toList, beq_dec] at this

theorem x_lenB {P : Program} {S : World → Prop} {L : List (Nat × Value)} {d : Option Tmp} {x : Operand} {t : TypeId} {s : List UInt8} {ty : TypeId} {pos : String} {af : Array Edge} {g : Option (Nat × Bool)} (ht : P.underlying t = some .string) (hx : ev L x = some (.string (bs s))) : XS P S L ⟨d, .call { callee := .builtin .len, args := #[x], argTypes := #[t] }, ty, pos, af, g⟩ (.int .i64 (s.length : Int)) := by
  have := x_lenS (P := P) (S := S) (d := d) (ty := ty) (pos := pos) (af := af) (g := g) ht hx
  rwa [bs_size] at this

theorem c_ownS {M : Nat → Prop} {w0 : World} {rs : List Res} {S : Nat → Prop} {b off c k : Nat} {xs : List (List UInt8)} {y : List UInt8} (i : Nat) (hi : rs[i]? = some (rSo eTxt S (some ⟨b, off, none⟩) c xs)) (hk : k < xs.length) (hy : xs[k] = y) : ∀ w, Held M w0 rs w → w.cell? ⟨b, off + k * 1, none⟩ = some (.string (bs y)) := fun w h => by
  obtain ⟨b', off', es, hA, _, hR, hc⟩ := (h.sl hi).at hk
  simp only [Option.some.injEq, Addr.mk.injEq, and_true] at hA
  obtain ⟨rfl, rfl⟩ := hA
  obtain ⟨rfl, _⟩ := hR
  have := hc 0 _ rfl
  rw [← hy]; exact this

theorem i_ownS {M : Nat → Prop} {w0 w : World} {rs : List Res} {S : Nat → Prop} {A : Option Addr} {c k : Nat} {xs : List (List UInt8)} (h : Held M w0 rs w) (i : Nat) (hi : rs[i]? = some (rSo eTxt S A c xs)) (hk : k < xs.length) : xs[k].length ≤ 9223372036854775807 := by
  obtain ⟨b', off', es, hA, _, hR, hc⟩ := (h.sl hi).at hk
  exact hR.2

/-- A builder in block b, its own blocks in S, holding the bytes l. -/
def BldIn (T e : TypeId) (B b : Nat) (S : Nat → Prop) (l : List UInt8) (w : World) : Prop :=
  Lib.IsBuilderF T e B b (Lib.byteCells l) w ∧ S b ∧ ∀ p v g, w.heap[b]? = some (.cells #[p, v] T (0, 0)) → v.ownBlock = some g → S g

theorem BldIn.loc {T e : TypeId} {B b : Nat} {S : Nat → Prop} {l : List UInt8} {w w' : World} (hs : ∀ k, S k → w'.heap[k]? = w.heap[k]?) (h : BldIn T e B b S l w) : BldIn T e B b S l w' := by
  obtain ⟨h1, h2, h3⟩ := h
  have key : ∀ p, Lib.BuilderAtF T e B b p (Lib.byteCells l) w → Lib.BuilderAtF T e B b p (Lib.byteCells l) w' := by
    rintro p ⟨hB, v, hb, hown, hne⟩
    refine ⟨hB, v, (hs b h2).trans hb, ⟨hown.1, ?_⟩, hne⟩
    rcases hown.2 with hn | ⟨g, cap, cur, fz, rfl, hbg, hg, rest⟩
    · exact .inl hn
    · exact .inr ⟨g, cap, cur, fz, rfl, hbg, (hs g (h3 _ _ g hb (by simp [Value.ownBlock]))).trans hg, rest⟩
  refine ⟨?_, h2, fun p v g hb hv => h3 p v g ((hs b h2).symm.trans hb) hv⟩
  rcases h1 with h | h
  · exact .inl (key _ h)
  · exact .inr (key _ h)

def rBldT (T e : TypeId) (B b : Nat) (S : Nat → Prop) (l : List UInt8) : Res := ⟨S, BldIn T e B b S l, fun _ _ hs h => BldIn.loc hs h⟩

theorem BldIn.mk {T e : TypeId} {B b : Nat} {l : List UInt8} {w : World} (h : Lib.IsBuilderF T e B b (Lib.byteCells l) w) : BldIn T e B b (Iv B w.heap.size) l w := by
  have hb : B ≤ b ∧ b < w.heap.size := by
    rcases h with h | h
    · exact ⟨h.1, h.lt⟩
    · exact ⟨h.1, h.lt⟩
  refine ⟨h, hb, fun p v g hh hv => ?_⟩
  have key : ∀ q, Lib.BuilderAtF T e B b q (Lib.byteCells l) w → Iv B w.heap.size g := by
    rintro q ⟨_, v', hb', hown, _⟩
    rw [hh] at hb'
    simp only [Option.some.injEq, Obj.cells.injEq, and_true] at hb'
    have e2 : v = v' := by
      have := congrArg (fun a : Array Value => a[1]?) hb'
      simpa using this
    subst e2
    exact hown.lt g hv
  rcases h with h | h
  · exact key _ h
  · exact key _ h

theorem Held.bldCall {T e : TypeId} {w0 w w' : World} {b : Nat} {S : Nat → Prop} {l l' : List UInt8} (h : Held Nob w0 [rBldT T e w0.heap.size b S l] w) (hb : Below w0.heap.size w w') (hi : Lib.IsBuilderF T e w0.heap.size b (Lib.byteCells l') w') : ∃ S', Held Nob w0 [rBldT T e w0.heap.size b S' l'] w' := by
  refine ⟨Iv w0.heap.size w'.heap.size, ?_⟩
  have hb2 : Below w0.heap.size w0 w' := h.below.trans hb
  exact ⟨.of_below hb2, by intro r hr; obtain rfl := List.mem_singleton.1 hr; exact BldIn.mk hi, by intro r hr; obtain rfl := List.mem_singleton.1 hr; exact fun k hk => ⟨.inr hk.1, hk.2⟩, List.pairwise_singleton _ _⟩

theorem Held.toBld {T e : TypeId} {w0 w : World} {b : Nat} {rs : List Res} (h : Held Nob w0 (rBlk b T [.pointer none, .slice none 0 0] :: rs) w) : ∃ S, Held Nob w0 [rBldT T e w0.heap.size b S []] w := by
  have hB : Blk w b T #[.pointer none, .slice none 0 0] := h.ok _ List.mem_cons_self
  have hr := h.rng _ (List.mem_cons_self) b rfl
  have hle : w0.heap.size ≤ b := hr.1.resolve_left fun x => x.elim
  have hi : Lib.IsBuilderF T e w0.heap.size b (Lib.byteCells []) w := .inl ⟨hle, _, hB, by simpa [Lib.byteCells] using World.ownsRowF_nil w w0.heap.size e 1, by simp [Value.ownBlock]⟩
  refine ⟨Iv w0.heap.size w.heap.size, ⟨h.chg, ?_, ?_, List.pairwise_singleton _ _⟩⟩
  · intro r hr; obtain rfl := List.mem_singleton.1 hr; exact BldIn.mk hi
  · intro r hr; obtain rfl := List.mem_singleton.1 hr; exact fun k hk => ⟨.inr hk.1, hk.2⟩

theorem Held.isBld {T e : TypeId} {M : Nat → Prop} {w0 w : World} {B b : Nat} {S : Nat → Prop} {l : List UInt8} {rs : List Res} (h : Held M w0 (rBldT T e B b S l :: rs) w) : Lib.IsBuilderF T e B b (Lib.byteCells l) w := (h.ok _ List.mem_cons_self : BldIn T e B b S l w).1

/-- What a package-level variable holds stays when only new blocks come and blocks behind it change. -/
theorem tab_below {P : Program} {w w' : World} {name : String} {k : IntKind} {zs : List Int} {g : Nat} (hg : P.globalNamed name = some g) (h : Lib.TabIs P w name k zs) (hb : Below w.heap.size w w') : Lib.TabIs P w' name k zs := by
  unfold Lib.TabIs World.var? at h ⊢
  rw [hg] at h ⊢
  simp only [Option.bind_some] at h ⊢
  have hlt : g < w.heap.size := by
    rcases Nat.lt_or_ge g w.heap.size with hlt | hge
    · exact hlt
    · rw [Array.getElem?_eq_none hge] at h; cases h
  rw [hb.block g hlt]
  exact h

theorem tv_2 : TV Tryz.prog 2 false [.int .i64 0] := by
  obtain ⟨i, h1, h2, h3⟩ := tv_parts (show (Tryz.prog.info? 2).map (fun i => (i.zero, i.size)) = some (some (.int .i64 0), 1) from by kernel_rfl)
  exact ⟨⟨_, Tryz.underlying2, rfl⟩, i, _, h1, h2, h3, rfl⟩

theorem tv_5 : TV Tryz.prog 5 false [.int .u8 0] := by
  obtain ⟨i, h1, h2, h3⟩ := tv_parts (show (Tryz.prog.info? 5).map (fun i => (i.zero, i.size)) = some (some (.int .u8 0), 1) from by kernel_rfl)
  exact ⟨⟨_, Tryz.underlying5, rfl⟩, i, _, h1, h2, h3, rfl⟩

theorem tv_9 : TV Tryz.prog 9 false [.string ByteArray.empty] := by
  obtain ⟨i, h1, h2, h3⟩ := tv_parts (show (Tryz.prog.info? 9).map (fun i => (i.zero, i.size)) = some (some (.string ByteArray.empty), 1) from by kernel_rfl)
  exact ⟨⟨_, Tryz.underlying9, rfl⟩, i, _, h1, h2, h3, rfl⟩

theorem tv_25 : TV Tryz.prog 25 false [.slice none 0 0] := by
  obtain ⟨i, h1, h2, h3⟩ := tv_parts (show (Tryz.prog.info? 25).map (fun i => (i.zero, i.size)) = some (some (.slice none 0 0), 1) from by kernel_rfl)
  exact ⟨⟨_, Tryz.underlying25, rfl⟩, i, _, h1, h2, h3, rfl⟩

theorem tv_134 : TV Tryz.prog 134 true [.int .i64 0, .int .i64 0] := by
  obtain ⟨i, h1, h2, h3⟩ := tv_parts (show (Tryz.prog.info? 134).map (fun i => (i.zero, i.size)) = some (some (.agg #[.int .i64 0, .int .i64 0]), 2) from by kernel_rfl)
  exact ⟨⟨_, Tryz.underlying134, rfl⟩, i, _, h1, h2, h3, rfl⟩

theorem ts_22 : TSl Tryz.prog 22 5 1 1 := by
  obtain ⟨i, h1, h2, h3, h4⟩ := ts_parts (show (Tryz.prog.info? 5).map (fun i => (i.zero, i.size, i.bytes)) = some (some (.int .u8 0), 1, 1) from by kernel_rfl)
  exact ⟨Tryz.underlying22, i, _, h1, h2, h3, h4, rfl⟩

theorem ts_25 : TSl Tryz.prog 25 2 1 8 := by
  obtain ⟨i, h1, h2, h3, h4⟩ := ts_parts (show (Tryz.prog.info? 2).map (fun i => (i.zero, i.size, i.bytes)) = some (some (.int .i64 0), 1, 8) from by kernel_rfl)
  exact ⟨Tryz.underlying25, i, _, h1, h2, h3, h4, rfl⟩

theorem ts_29 : TSl Tryz.prog 29 134 2 16 := by
  obtain ⟨i, h1, h2, h3, h4⟩ := ts_parts (show (Tryz.prog.info? 134).map (fun i => (i.zero, i.size, i.bytes)) = some (some (.agg #[.int .i64 0, .int .i64 0]), 2, 16) from by kernel_rfl)
  exact ⟨Tryz.underlying29, i, _, h1, h2, h3, h4, rfl⟩

theorem ts_51 : TSl Tryz.prog 51 25 1 24 := by
  obtain ⟨i, h1, h2, h3, h4⟩ := ts_parts (show (Tryz.prog.info? 25).map (fun i => (i.zero, i.size, i.bytes)) = some (some (.slice none 0 0), 1, 24) from by kernel_rfl)
  exact ⟨Tryz.underlying51, i, _, h1, h2, h3, h4, rfl⟩

theorem ts_78 : TSl Tryz.prog 78 9 1 16 := by
  obtain ⟨i, h1, h2, h3, h4⟩ := ts_parts (show (Tryz.prog.info? 9).map (fun i => (i.zero, i.size, i.bytes)) = some (some (.string ByteArray.empty), 1, 16) from by kernel_rfl)
  exact ⟨Tryz.underlying78, i, _, h1, h2, h3, h4, rfl⟩

theorem fa_134_0 : ∀ b o w, (Instr.fieldAt 134 (.pointer (some ⟨b, o, none⟩)) 0).run Tryz.prog w = .ok (.pointer (some ⟨b, o + 0, none⟩)) w := by
  obtain ⟨i, z, h1, _, h3, _⟩ := tv_2.info
  exact fun b o w => fieldAt_of (f := 0) Tryz.underlying134 rfl h1 (by rw [h3]; decide) b o w

theorem fa_134_1 : ∀ b o w, (Instr.fieldAt 134 (.pointer (some ⟨b, o, none⟩)) 1).run Tryz.prog w = .ok (.pointer (some ⟨b, o + 1, none⟩)) w := by
  obtain ⟨i, z, h1, _, h3, _⟩ := tv_2.info
  exact fun b o w => fieldAt_of (f := 1) Tryz.underlying134 rfl h1 (by rw [h3]; decide) b o w

theorem tb_134 : TB Tryz.prog 134 [.int .i64 0, .int .i64 0] := by
  refine ⟨tv_134, _, #[(0, 1), (1, 1)], Tryz.underlying134, fun w => ?_, fun i hi => ?_⟩
  · obtain ⟨i2, z2, h2, _, s2, _⟩ := tv_2.info; simp only [List.length_cons, List.length_nil] at s2
    simp [sizeOf, typeInfo, h2, s2]
  · simp only [List.length_cons, List.length_nil] at hi
    match i, hi with
    | 0, _ => rfl
    | 1, _ => rfl

theorem en_8 : ∀ args w, (callFunc 8 args).run Tryz.prog w = .ok (.enter 8 args) w := enters_of Tryz.func8 (by kernel_rfl) rfl

theorem en_9 : ∀ args w, (callFunc 9 args).run Tryz.prog w = .ok (.enter 9 args) w := enters_of Tryz.func9 (by kernel_rfl) rfl

theorem en_10 : ∀ args w, (callFunc 10 args).run Tryz.prog w = .ok (.enter 10 args) w := enters_of Tryz.func10 (by kernel_rfl) rfl

theorem en_11 : ∀ args w, (callFunc 11 args).run Tryz.prog w = .ok (.enter 11 args) w := enters_of Tryz.func11 (by kernel_rfl) rfl

theorem en_12 : ∀ args w, (callFunc 12 args).run Tryz.prog w = .ok (.enter 12 args) w := enters_of Tryz.func12 (by kernel_rfl) rfl

theorem en_13 : ∀ args w, (callFunc 13 args).run Tryz.prog w = .ok (.enter 13 args) w := enters_of Tryz.func13 (by kernel_rfl) rfl

theorem en_14 : ∀ args w, (callFunc 14 args).run Tryz.prog w = .ok (.enter 14 args) w := enters_of Tryz.func14 (by kernel_rfl) rfl

theorem en_15 : ∀ args w, (callFunc 15 args).run Tryz.prog w = .ok (.enter 15 args) w := enters_of Tryz.func15 (by kernel_rfl) rfl

theorem en_16 : ∀ args w, (callFunc 16 args).run Tryz.prog w = .ok (.enter 16 args) w := enters_of Tryz.func16 (by kernel_rfl) rfl

theorem en_41 : ∀ args w, (callFunc 41 args).run Tryz.prog w = .ok (.enter 41 args) w := enters_of Tryz.func41 (by kernel_rfl) rfl

theorem en_42 : ∀ args w, (callFunc 42 args).run Tryz.prog w = .ok (.enter 42 args) w := enters_of Tryz.func42 (by kernel_rfl) rfl

theorem en_43 : ∀ args w, (callFunc 43 args).run Tryz.prog w = .ok (.enter 43 args) w := enters_of Tryz.func43 (by kernel_rfl) rfl

theorem en_44 : ∀ args w, (callFunc 44 args).run Tryz.prog w = .ok (.enter 44 args) w := enters_of Tryz.func44 (by kernel_rfl) rfl

theorem en_45 : ∀ args w, (callFunc 45 args).run Tryz.prog w = .ok (.enter 45 args) w := enters_of Tryz.func45 (by kernel_rfl) rfl

theorem en_46 : ∀ args w, (callFunc 46 args).run Tryz.prog w = .ok (.enter 46 args) w := enters_of Tryz.func46 (by kernel_rfl) rfl

theorem en_47 : ∀ args w, (callFunc 47 args).run Tryz.prog w = .ok (.enter 47 args) w := enters_of Tryz.func47 (by kernel_rfl) rfl

theorem en_48 : ∀ args w, (callFunc 48 args).run Tryz.prog w = .ok (.enter 48 args) w := enters_of Tryz.func48 (by kernel_rfl) rfl

theorem en_49 : ∀ args w, (callFunc 49 args).run Tryz.prog w = .ok (.enter 49 args) w := enters_of Tryz.func49 (by kernel_rfl) rfl

theorem en_50 : ∀ args w, (callFunc 50 args).run Tryz.prog w = .ok (.enter 50 args) w := enters_of Tryz.func50 (by kernel_rfl) rfl

theorem en_51 : ∀ args w, (callFunc 51 args).run Tryz.prog w = .ok (.enter 51 args) w := enters_of Tryz.func51 (by kernel_rfl) rfl

theorem en_52 : ∀ args w, (callFunc 52 args).run Tryz.prog w = .ok (.enter 52 args) w := enters_of Tryz.func52 (by kernel_rfl) rfl

theorem en_53 : ∀ args w, (callFunc 53 args).run Tryz.prog w = .ok (.enter 53 args) w := enters_of Tryz.func53 (by kernel_rfl) rfl

theorem en_54 : ∀ args w, (callFunc 54 args).run Tryz.prog w = .ok (.enter 54 args) w := enters_of Tryz.func54 (by kernel_rfl) rfl

theorem en_55 : ∀ args w, (callFunc 55 args).run Tryz.prog w = .ok (.enter 55 args) w := enters_of Tryz.func55 (by kernel_rfl) rfl

theorem en_56 : ∀ args w, (callFunc 56 args).run Tryz.prog w = .ok (.enter 56 args) w := enters_of Tryz.func56 (by kernel_rfl) rfl

theorem en_57 : ∀ args w, (callFunc 57 args).run Tryz.prog w = .ok (.enter 57 args) w := enters_of Tryz.func57 (by kernel_rfl) rfl

theorem en_58 : ∀ args w, (callFunc 58 args).run Tryz.prog w = .ok (.enter 58 args) w := enters_of Tryz.func58 (by kernel_rfl) rfl

theorem en_59 : ∀ args w, (callFunc 59 args).run Tryz.prog w = .ok (.enter 59 args) w := enters_of Tryz.func59 (by kernel_rfl) rfl

theorem en_60 : ∀ args w, (callFunc 60 args).run Tryz.prog w = .ok (.enter 60 args) w := enters_of Tryz.func60 (by kernel_rfl) rfl

theorem en_61 : ∀ args w, (callFunc 61 args).run Tryz.prog w = .ok (.enter 61 args) w := enters_of Tryz.func61 (by kernel_rfl) rfl

theorem en_62 : ∀ args w, (callFunc 62 args).run Tryz.prog w = .ok (.enter 62 args) w := enters_of Tryz.func62 (by kernel_rfl) rfl

theorem en_69 : ∀ args w, (callFunc 69 args).run Tryz.prog w = .ok (.enter 69 args) w := enters_of Tryz.func69 (by kernel_rfl) rfl

theorem en_70 : ∀ args w, (callFunc 70 args).run Tryz.prog w = .ok (.enter 70 args) w := enters_of Tryz.func70 (by kernel_rfl) rfl

theorem en_78 : ∀ args w, (callFunc 78 args).run Tryz.prog w = .ok (.enter 78 args) w := enters_of Tryz.func78 (by kernel_rfl) rfl

theorem en_103 : ∀ args w, (callFunc 103 args).run Tryz.prog w = .ok (.enter 103 args) w := enters_of Tryz.func103 (by kernel_rfl) rfl

theorem en_106 : ∀ args w, (callFunc 106 args).run Tryz.prog w = .ok (.enter 106 args) w := enters_of Tryz.func106 (by kernel_rfl) rfl

theorem en_110 : ∀ args w, (callFunc 110 args).run Tryz.prog w = .ok (.enter 110 args) w := enters_of Tryz.func110 (by kernel_rfl) rfl

theorem en_112 : ∀ args w, (callFunc 112 args).run Tryz.prog w = .ok (.enter 112 args) w := enters_of Tryz.func112 (by kernel_rfl) rfl

theorem en_113 : ∀ args w, (callFunc 113 args).run Tryz.prog w = .ok (.enter 113 args) w := enters_of Tryz.func113 (by kernel_rfl) rfl

theorem en_119 : ∀ args w, (callFunc 119 args).run Tryz.prog w = .ok (.enter 119 args) w := enters_of Tryz.func119 (by kernel_rfl) rfl

theorem en_120 : ∀ args w, (callFunc 120 args).run Tryz.prog w = .ok (.enter 120 args) w := enters_of Tryz.func120 (by kernel_rfl) rfl

theorem en_121 : ∀ args w, (callFunc 121 args).run Tryz.prog w = .ok (.enter 121 args) w := enters_of Tryz.func121 (by kernel_rfl) rfl

theorem en_144 : ∀ args w, (callFunc 144 args).run Tryz.prog w = .ok (.enter 144 args) w := enters_of Tryz.func144 (by kernel_rfl) rfl

theorem en_164 : ∀ args w, (callFunc 164 args).run Tryz.prog w = .ok (.enter 164 args) w := enters_of Tryz.func164 (by kernel_rfl) rfl

theorem hmix : Tryz.prog.follows .mixedOrders = true := by kernel_rfl

theorem elem_Int64 : Elem Tryz.prog eInt 25 2 8 := by
  obtain ⟨i0, hi0, hz0, hz1, hz2⟩ := info_parts info_impl_Int64
  exact ⟨Tryz.underlying25, i0, _, hi0, hz0, hz1, hz2, rfl⟩

set_option maxHeartbeats 400000 in
theorem Clone_Int64 (A : Option Addr) (c : Nat) (xs : List Int) (w : World) (h : Sl eInt w (Old w) A c xs) (hsm : xs.length ≤ 1000000000000) :
    Calls Tryz.prog 58 #[.slice A xs.length c] w fun e w' => ∃ A' c', e = .returned (.slice A' xs.length c') ∧ So eInt w' (Fr w w') A' c' xs ∧ Below w.heap.size w w' := by
  have q22 : ∀ (w : World) (a : Option Addr) (n c n' c' : Nat), (binOp .eql 25 (.slice a n c) (.slice none n' c')).run Tryz.prog w = .ok (.bool a.isNone) w := fun w a n c n' c' => Lib.run_eql_slice_nil w _ _ a n c n' c' Tryz.underlying25
  cases A with
  | none =>
    have hx : xs = [] := Classical.byContradiction fun hn => by
      obtain ⟨b, off, hA, _⟩ := h.2.2 hn
      cases hA
    subst hx
    clear h
    go_enter Tryz.func58, Tryz.ntmps58
    go_wp2
    go_ret
    exact ⟨none, 0, rfl, So.nil (Nat.zero_le _), Below.refl _ _⟩
  | some ad =>
    have H := Lib.hid (h.on (below_alloc (Below.refl _ _) (.cells #[] 2))); clear h
    go_enter Tryz.func58, Tryz.ntmps58
    go_wp2_with (at_builtin; refine wpList_append_row flat_int elem_Int64 rfl _ _ rfl (base := w.heap.size) rfl (Row.empty (Nat.le_refl _)) rfl H.out (by simp only [List.length_nil]; unfold maxLen; omega) (by simp only [List.length_nil]; omega) (by simp) ?_)
    intro v' w1 hrow hgrow hat
    try rw [List.nil_append] at hrow
    obtain ⟨A', c', rfl, hso⟩ := hrow.so
    have HO := Lib.hid hso
    have HL : Hid (Below w.heap.size w w1) := ((Below.refl _ w).alloc (Nat.le_refl _) _).grown hgrow (by simp) (by intro k hk; simp [Value.ownBlock] at hk; omega)
    clear hrow hgrow hat hso
    go_wp2
    go_ret
    exact ⟨A', c', rfl, HO.out, HL.out⟩

/-- Zeros struck off at the end. -/
def trimZ (xs : List Int) : List Int := (xs.reverse.dropWhile (· == 0)).reverse

theorem trimZ_nil : trimZ [] = [] := rfl

theorem trimZ_zero (xs : List Int) (k : Nat) (h : k < xs.length) (h0 : xs[k] = 0) : trimZ (xs.take (k + 1)) = trimZ (xs.take k) := by
  unfold trimZ
  rw [List.take_succ_eq_append_getElem h, h0, List.reverse_append]; rfl

theorem trimZ_stop (xs : List Int) (k : Nat) (h : k < xs.length) (h0 : xs[k] ≠ 0) : trimZ (xs.take (k + 1)) = xs.take (k + 1) := by
  unfold trimZ
  rw [List.take_succ_eq_append_getElem h, List.reverse_append]
  show (List.dropWhile (· == 0) (xs[k] :: (xs.take k).reverse)).reverse = _
  rw [List.dropWhile_cons_of_neg (by simpa using h0)]; simp

theorem impl_trimmed (A : Option Addr) (c : Nat) (xs : List Int) (w : World) (h : Sl eInt w (Old w) A c xs) :
    Calls Tryz.prog 103 #[.slice A xs.length c] w fun e w' => e = .returned (.slice A (trimZ xs).length c) ∧ (∃ k, trimZ xs = xs.take k) ∧ w = w' := by
  have hlen := h.len
  have hcap := h.cap
  have hmax := h.2.1
  have H := Lib.hid h; clear h
  go_enter Tryz.func103, Tryz.ntmps103
  go_wp2
  go_loop [0] (fun s0 => ∃ k : Nat, k ≤ xs.length ∧ s0 = .slice A k c ∧ Hid (trimZ (xs.take k) = trimZ xs)) (fun s0 => match s0 with | .slice _ n _ => n | _ => 0)
  case atStart => exact ⟨xs.length, Nat.le_refl _, rfl, by show _ = _; rw [List.take_length]⟩
  case round =>
    obtain ⟨k, hk, rfl, HN⟩ := hrel
    rcases k with _ | k
    · have HF : Hid (trimZ xs = []) := by show _ = _; rw [← HN.out]; rfl
      go_wp2
      go_ret
      exact ⟨by rw [HF.out]; rfl, ⟨0, by rw [HF.out]; rfl⟩, rfl⟩
    · have hlt : k < xs.length := by omega
      obtain ⟨b, off, es, rfl, hb, ⟨rfl, _⟩, hc⟩ := H.out.at1 rfl hlt
      have d0 : w.cell? ⟨b, off + k, none⟩ = some (.int .i64 xs[k]) := hc _ rfl
      clear hc
      have HZ := Lib.hid (trimZ_zero xs k hlt)
      have HS := Lib.hid (trimZ_stop xs k hlt)
      generalize xs[k] = y at d0 HZ HS
      cases q : (y == 0)
      · have HF : Hid (trimZ xs = xs.take (k + 1)) := by show _ = _; rw [← HN.out, HS.out (by simpa using q)]
        go_wp2
        go_ret
        exact ⟨by rw [HF.out, List.length_take, show min (k + 1) xs.length = k + 1 from by omega]; rfl, ⟨k + 1, HF.out⟩, rfl⟩
      · go_wp2
        go_round
        case rel => exact ⟨k, by omega, by go_num, by show _ = _; rw [← HN.out, HZ.out (by simpa using q)]⟩
        case measure => simp

theorem trimZ_cons (a : Int) (ys : List Int) : trimZ (a :: ys) = if a = 0 ∧ trimZ ys = [] then [] else a :: trimZ ys := by
  unfold trimZ
  rw [List.reverse_cons, List.dropWhile_append]
  by_cases h : (ys.reverse.dropWhile (· == 0)).isEmpty
  · rw [if_pos h]
    rw [List.isEmpty_iff] at h
    by_cases ha : a = 0
    · rw [if_pos ⟨ha, by rw [h]; rfl⟩, ha]; rfl
    · rw [if_neg (fun hc => ha hc.1), List.dropWhile_cons_of_neg (by simpa using ha), h]; rfl
  · rw [if_neg h, if_neg (fun hc => h (by simpa using hc.2)), List.reverse_append]; rfl

theorem trimZ_len (xs : List Int) : (trimZ xs).length ≤ xs.length := by
  induction xs with
  | nil => simp [trimZ]
  | cons a ys ih => rw [trimZ_cons]; split <;> simp; omega

def fracBad (x : tFraction) : Bool := !withinB x.1 1 999999 || !withinB x.2 1 999999

theorem enters_ValidFractions1 : ∀ args w, (callFunc 109 args).run Tryz.prog w = .ok (.enter 109 args) w := enters_of Tryz.func109 (by kernel_rfl) rfl

theorem impl_ValidFractions1 (es : List Value) (x : tFraction) (w : World) (h : eFraction.R w (Old w) es x) :
    Calls Tryz.prog 109 #[.agg es.toArray] w fun e w' => e = .returned (.bool (fracBad x)) ∧ Below w.heap.size w w' := by
  obtain ⟨rfl, _, _⟩ := shape_Fraction h
  clear h
  unfold fracBad
  obtain ⟨u, d⟩ := x
  cases h1 : withinB u 1 999999
  · go_enter Tryz.func109, Tryz.ntmps109
    go_wp2_with (go_at_call 42; refine (impl_within _ _ _ _).mono ?_; rintro e w' ⟨rfl, rfl⟩; rw [h1])
    go_ret
    exact ⟨by first | (simp; done) | simp [h1], (Below.refl _ _).alloc (Nat.le_refl _) _⟩
  · go_enter Tryz.func109, Tryz.ntmps109
    go_wp2_with (go_at_call 42; refine (impl_within _ _ _ _).mono ?_; rintro e w' ⟨rfl, rfl⟩; (try rw [h1]))
    go_ret
    exact ⟨by first | (simp; done) | simp [h1], (Below.refl _ _).alloc (Nat.le_refl _) _⟩

def validFrac (xs : List tFraction) : Bool := withinB xs.length 1 100 && !xs.any fracBad

theorem impl_ValidFractions (A : Option Addr) (c : Nat) (xs : List tFraction) (w : World) (h : Sl eFraction w (Old w) A c xs) :
    Calls Tryz.prog 48 #[.slice A xs.length c] w fun e w' => e = .returned (.bool (validFrac xs)) ∧ Below w.heap.size w w' := by
  unfold validFrac
  have hI := Lib.hid (ContainsFunc_Fraction fracBad 109 #[] A c xs w h enters_ValidFractions1 (fun W x es _ hb hR => impl_ValidFractions1 es x W hR)); clear h
  cases h1 : withinB xs.length 1 100
  · go_enter Tryz.func48, Tryz.ntmps48
    go_wp2_with (first | (go_at_call 107; refine (impl_size_Fraction _ _ _ _).mono ?_; rintro e w' ⟨rfl, rfl⟩) | (go_at_call 42; refine (impl_within _ _ _ _).mono ?_; rintro e w' ⟨rfl, rfl⟩; rw [h1]))
    go_ret
    exact ⟨by simp, Below.refl _ _⟩
  · go_enter Tryz.func48, Tryz.ntmps48
    go_wp2_with (first | (go_at_call 107; refine (impl_size_Fraction _ _ _ _).mono ?_; rintro e w' ⟨rfl, rfl⟩) | (go_at_call 42; refine (impl_within _ _ _ _).mono ?_; rintro e w' ⟨rfl, rfl⟩; rw [h1]) | (go_at_call 108; refine hI.out.mono ?_; rintro e w' ⟨rfl, hb⟩))
    go_ret
    exact ⟨by simp, hb⟩

def outB (lo hi n : Int) : Bool := !withinB n lo hi

def allW (xs : List Int) (lo hi : Int) : Bool := !xs.any (outB lo hi)

theorem impl_allWithin (A : Option Addr) (c : Nat) (xs : List Int) (lo hi : Int) (w : World) (h : Sl eInt w (Old w) A c xs) :
    Calls Tryz.prog 54 #[.slice A xs.length c, .int .i64 lo, .int .i64 hi] w fun e w' => e = .returned (.bool (allW xs lo hi)) ∧ w = w' := by
  have hlen := h.len
  have H := Lib.hid h; clear h
  unfold allW
  go_enter Tryz.func54, Tryz.ntmps54
  go_wp2
  go_loop [8, 11] (fun _ i => ∃ k : Nat, k ≤ xs.length ∧ i = .int .i64 k ∧ Hid ((xs.take k).any (outB lo hi) = false)) (fun _ i => xs.length - (intOf i).toNat)
  case atStart => exact ⟨0, Nat.zero_le _, rfl, rfl⟩
  case round =>
    obtain ⟨k, hk, rfl, HN⟩ := hrel
    by_cases hlt : k < xs.length
    · have hltz : (k : Int) < (xs.length : Int) := by omega
      obtain ⟨b, off, es, rfl, hb, ⟨rfl, _⟩, hc⟩ := H.out.at1 rfl hlt
      have d0 : w.cell? ⟨b, off + k, none⟩ = some (.int .i64 xs[k]) := hc _ rfl
      clear hc
      have HT : Hid (outB lo hi xs[k] = true → xs.any (outB lo hi) = true) := fun e => any_hit hlt e
      have HS : Hid (outB lo hi xs[k] = false → (xs.take (k + 1)).any (outB lo hi) = false) := fun e => any_step hlt HN.out e
      generalize xs[k] = y at d0 HT HS
      cases q1 : withinB y lo hi
      · go_wp2_with (go_at_call 42; refine (impl_within _ _ _ _).mono ?_; rintro e w' ⟨rfl, rfl⟩; rw [q1])
        go_ret
        exact ⟨by rw [HT.out (by unfold outB; rw [q1]; rfl)]; rfl, rfl⟩
      · go_wp2_with (go_at_call 42; refine (impl_within _ _ _ _).mono ?_; rintro e w' ⟨rfl, rfl⟩; rw [q1])
        go_round
        case rel => exact ⟨k + 1, by omega, by go_num, HS.out (by unfold outB; rw [q1]; rfl)⟩
        case measure => simp [intOf]; omega
    · have hltz : ¬ (k : Int) < (xs.length : Int) := by omega
      obtain rfl : k = xs.length := by omega
      go_wp2
      go_ret
      have hn := HN.out
      rw [List.take_length] at hn
      exact ⟨ret_bool (by rw [hn]; rfl), rfl⟩

/-- Strictly rising. -/
def risB : List Int → Bool
  | x :: y :: l => decide (x < y) && risB (y :: l)
  | _ => true

theorem risB_get : ∀ (xs : List Int) (k : Nat) (h : k + 1 < xs.length), xs[k + 1] ≤ xs[k] → risB xs = false
  | x :: y :: l, 0, _, h => by rw [risB, decide_eq_false (show ¬ x < y from Int.not_lt.2 h)]; rfl
  | x :: y :: l, k + 1, hk, h => by rw [risB, risB_get (y :: l) k (Nat.lt_of_succ_lt_succ hk) h]; simp
  | [_], k, hk, _ => by simp at hk
  | [], k, hk, _ => by simp at hk

theorem risB_all : ∀ (xs : List Int), (∀ k (h : k + 1 < xs.length), xs[k] < xs[k + 1]) → risB xs = true
  | x :: y :: l, h => by
    have h0 : x < y := h 0 (by simp)
    have h1 : risB (y :: l) = true := risB_all (y :: l) fun k hk => h (k + 1) (Nat.succ_lt_succ hk)
    rw [risB, decide_eq_true h0, h1]; rfl
  | [_], _ => rfl
  | [], _ => rfl

set_option maxHeartbeats 400000 in
theorem impl_rising (A : Option Addr) (c : Nat) (xs : List Int) (w : World) (h : Sl eInt w (Old w) A c xs) :
    Calls Tryz.prog 53 #[.slice A xs.length c] w fun e w' => e = .returned (.bool (risB xs)) ∧ Below w.heap.size w w' := by
  have hlen := h.len
  have H := Lib.hid h; clear h
  go_enter Tryz.func53, Tryz.ntmps53
  go_wp2
  go_loopw [3] (fun s3 wr => ∃ k : Nat, k ≤ xs.length ∧ s3 = .int .i64 ((k : Int) + 1) ∧ Hid (∀ j (h : j + 1 < xs.length), j < k → xs[j] < xs[j + 1]) ∧ Hid (Below w.heap.size w wr)) (fun s3 _ => xs.length + 2 - (intOf s3).toNat)
  case atStart => exact ⟨0, Nat.zero_le _, rfl, fun j _ h => absurd h (Nat.not_lt_zero _), Below.refl _ w⟩
  case round =>
    obtain ⟨k, hk, rfl, HN, BW⟩ := hrel
    by_cases hlt : k + 1 < xs.length
    · have hltz : (k : Int) + 1 < (xs.length : Int) := by omega
      have hlt0 : k < xs.length := by omega
      have hltz0 : (k : Int) < (xs.length : Int) := by omega
      have hz0 : (0 : Int) ≤ (k : Int) := by omega
      have hz1 : (0 : Int) ≤ (k : Int) + 1 := by omega
      obtain ⟨b, off, es, rfl, hb, ⟨rfl, _⟩, hc⟩ := H.out.at1 rfl hlt0
      have d0 : wr.cell? ⟨b, off + k, none⟩ = some (.int .i64 xs[k]) := (below_olds BW.out _ hb).trans (hc _ rfl)
      clear hc hb
      obtain ⟨b', off', es', hA, hb, ⟨rfl, _⟩, hc⟩ := H.out.at1 rfl hlt
      simp only [Option.some.injEq, Addr.mk.injEq, and_true] at hA
      obtain ⟨rfl, rfl⟩ := hA
      have d1 : wr.cell? ⟨b, off + (k + 1), none⟩ = some (.int .i64 xs[k + 1]) := (below_olds BW.out _ hb).trans (hc _ rfl)
      clear hc hb
      have HT : Hid (xs[k + 1] ≤ xs[k] → risB xs = false) := risB_get xs k hlt
      have HS : Hid (xs[k] < xs[k + 1] → ∀ j (h : j + 1 < xs.length), j < k + 1 → xs[j] < xs[j + 1]) := fun e j h hj => by
        by_cases ej : j = k
        · subst ej; exact e
        · exact HN.out j h (by omega)
      generalize xs[k] = x at d0 HT HS
      generalize xs[k + 1] = y at d1 HT HS
      by_cases hq : y ≤ x
      · have HF := Lib.hid (HT.out hq)
        go_wp2_with fail
        go_quiet (fail)
        go_wp2
        go_ret
        exact ⟨ret_bool (by rw [HF.out]), below_drewN BW.out _⟩
      · have HF := Lib.hid (HS.out (Int.not_le.1 hq))
        have hq' : decide (y ≤ x) = false := decide_eq_false hq
        clear hq
        go_wp2_with fail
        go_quiet (fail)
        go_wp2
        go_roundw
        case rel => exact ⟨k + 1, by omega, by go_num, HF.out, below_drewN BW.out _⟩
        case measure => simp [intOf]; omega
    · have hltz : ¬ (k : Int) + 1 < (xs.length : Int) := by omega
      go_wp2
      go_ret
      exact ⟨ret_bool (risB_all xs fun j hj => HN.out j hj (by omega)).symm, BW.out⟩

set_option maxRecDepth 100000 in
set_option maxHeartbeats 1000000 in
theorem slices_Equal (A A' : Option Addr) (c c' : Nat) (xs ys : List Int) (w : World) (h : Sl eInt w (Old w) A c xs) (h' : Sl eInt w (Old w) A' c' ys) :
    Calls Tryz.prog 112 #[.slice A xs.length c, .slice A' ys.length c'] w fun e w' => e = .returned (.bool (eq_L xs ys)) ∧ Dr w w' := by
  have hlen := h.len
  have hlen' := h'.len
  unfold eq_L
  by_cases hne : xs.length = ys.length
  · have hne' : ((xs.length : Int) != (ys.length : Int)) = false := by simp [hne]
    have HE := Lib.hid hne; clear hne
    have H := Lib.hid h; clear h
    have H' := Lib.hid h'; clear h'
    go_enter Tryz.func112, Tryz.ntmps112
    go_wp2
    clear hne'
    go_loopw [5, 13] (fun _ s5 wr => ∃ k : Nat, k ≤ xs.length ∧ s5 = .int .i64 k ∧ Hid (Dr w wr) ∧ Hid (∀ j (h1 : j < xs.length) (h2 : j < ys.length), j < k → eq_i xs[j] ys[j] = true)) (fun _ s5 _ => xs.length - (intOf s5).toNat)
    case atStart => exact ⟨0, Nat.zero_le _, rfl, Dr.refl _, fun j _ _ h => absurd h (Nat.not_lt_zero _)⟩
    case round =>
      obtain ⟨k, hk, rfl, HL, HN⟩ := hrel
      by_cases hlt : k < xs.length
      · have hltz : (k : Int) < (xs.length : Int) := by omega
        have hlt' : k < ys.length := by have := HE.out; omega
        have hltz' : (k : Int) < (ys.length : Int) := by omega
        obtain ⟨bp, offp, esp, rfl, hbp, ⟨rfl, _⟩, hc⟩ := H.out.at1 rfl hlt
        have dp0 : wr.cell? ⟨bp, offp + k, none⟩ = some (.int .i64 xs[k]) := (HL.out.cell _).trans (hc _ rfl)
        clear hc
        obtain ⟨bq, offq, esq, rfl, hbq, ⟨rfl, _⟩, hc⟩ := H'.out.at1 rfl hlt'
        have dq0 : wr.cell? ⟨bq, offq + k, none⟩ = some (.int .i64 ys[k]) := (HL.out.cell _).trans (hc _ rfl)
        clear hc
        have HQ0 : Hid (eq_i xs[k] ys[k] = false → eqL eq_i xs ys = false) := eqL_get xs ys k hlt hlt'
        have HQ1 : Hid (eq_i xs[k] ys[k] = true → ∀ j (h1 : j < xs.length) (h2 : j < ys.length), j < k + 1 → eq_i xs[j] ys[j] = true) := fun e j h1 h2 hj => by
          by_cases ej : j = k
          · subst ej; exact e
          · exact HN.out j h1 h2 (by omega)
        generalize xs[k] = x at dp0 HQ0 HQ1
        generalize ys[k] = y at dq0 HQ0 HQ1
        cases hq : eq_i x y
        · have hq' : (x != y) = true := by simp [eq_i] at hq; simp [hq]
          go_wp2_with fail
          go_quiet (fail)
          go_wp2
          go_ret
          exact ⟨by rw [HQ0.out hq]; rfl, HL.out.drewN _⟩
        · have hq' : (x != y) = false := by simp [eq_i] at hq; simp [hq]
          go_wp2_with fail
          go_quiet (fail)
          go_wp2
          go_roundw
          case rel => exact ⟨k + 1, by omega, by go_num, HL.out.drewN _, HQ1.out hq⟩
          case measure => simp [intOf]; omega
      · have hltz : ¬ (k : Int) < (xs.length : Int) := by omega
        obtain rfl : k = xs.length := by omega
        go_wp2
        go_ret
        exact ⟨by rw [eqL_all xs ys HE.out fun j h1 h2 => HN.out j h1 h2 h1]; rfl, HL.out⟩
  · have hne' : ((xs.length : Int) != (ys.length : Int)) = true := by simp; omega
    rw [eqL_len xs ys hne]
    clear h h' hne
    go_enter Tryz.func112, Tryz.ntmps112
    go_wp2
    go_ret
    exact ⟨rfl, Dr.refl _⟩

theorem allW_mem {xs : List Int} {lo hi : Int} (h : allW xs lo hi = true) : ∀ x ∈ xs, lo ≤ x ∧ x ≤ hi := by
  intro x hx
  unfold allW outB at h
  simp at h
  exact withinB_true.1 (h x hx)

def budgetB (n : Int) : Bool := withinB n 1 20000

theorem budgetB_le {n : Int} (h : budgetB n = true) : 1 ≤ n ∧ n ≤ 20000 := withinB_true.1 h

theorem allW_of {xs : List Int} {lo hi : Int} (h : ∀ x ∈ xs, lo ≤ x ∧ x ≤ hi) : allW xs lo hi = true := by
  unfold allW outB; simp; exact fun x hx => withinB_true.2 (h x hx)

set_option maxRecDepth 100000 in
set_option maxHeartbeats 4000000 in
theorem impl_budgetOk (a0 : Int) (w : World)  :
    Calls Tryz.prog 50 #[.int .i64 a0] w fun e w' => e = .returned (.bool (budgetB a0)) ∧ w = w' := by
  have HH1 := Held.start Nob w
  refine enter (n := 5) Tryz.func50 rfl rfl rfl fun a_2 HE3 => ?_
  refine wp_seq ?_
  refine rg ?_
  refine pl_x HE3 HH1 (wt0 rfl) (x_assign rfl) rfl rfl fun a_4 HE5 => ?_
  refine wpList_nil ?_
  clear a_2 HE3
  refine nrm ?_
  refine wp_seq ?_
  refine rg ?_
  refine pl_x HE5 HH1 (wt0 rfl) (x_move rfl) rfl rfl fun a_6 HE7 => ?_
  refine pl fun K_8 hK9 => ?_
  refine st_call HE7 (wt0 rfl) rfl rfl rfl en_42 rfl rfl (impl_within a0 1 20000 _ ) fun e w' hr => ?_
  obtain ⟨rfl, rfl⟩ := hr
  refine ⟨_, rfl, fun a_10 HE11 => hK9 _ _ ?_⟩
  refine pl_x HE11 HH1 (wt0 rfl) (x_assign rfl) rfl rfl fun a_12 HE13 => ?_
  refine wpList_nil ?_
  clear a_4 HE5 a_6 HE7 a_10 HE11 hK9 K_8
  refine nrm ?_
  refine wp_ret ?_
  refine ret1 HE13 rfl (rv_tmp rfl) ?_
  have hF : (budgetB a0) = (withinB a0 1 20000) := by
    first | rfl | (simp [budgetB]; done) | (simp [budgetB]; omega) | grind [budgetB]
  exact ⟨by first | (rw [hF] <;> rfl) | rfl | (rw [hF]; simp only [Ending.returned.injEq, Value.slice.injEq, true_and, and_true]; first | omega | (simp; done)) | (rw [hF]; simp; omega), rfl⟩

/-- The value of limbs. -/
def val : List Int → Int
  | [] => 0
  | x :: xs => x + 1000000 * val xs

def limbs (xs : List Int) : Prop := ∀ x ∈ xs, 0 ≤ x ∧ x ≤ 999999

theorem limbs_set {xs : List Int} {j : Nat} {y : Int} (h : limbs xs) (hy : 0 ≤ y ∧ y ≤ 999999) : limbs (xs.set j y) := fun x hx => by
  rcases List.mem_or_eq_of_mem_set hx with h1 | rfl
  · exact h x h1
  · exact hy

theorem limbs_rep (n : Nat) : limbs (List.replicate n 0) := fun x hx => by
  have := (List.mem_replicate.1 hx).2
  omega

theorem val_rep (n : Nat) : val (List.replicate n 0) = 0 := by
  induction n with
  | zero => rfl
  | succ n ih => rw [List.replicate_succ, val, ih]; rfl

theorem val_set : ∀ {xs : List Int} {j : Nat} {y : Int} (h : j < xs.length), val (xs.set j y) = val xs + (y - xs[j]) * 1000000 ^ j
  | x :: xs, 0, y, _ => by simp [val]; omega
  | x :: xs, j + 1, y, h => by
    rw [List.length_cons] at h
    rw [List.set_cons_succ, val, val, val_set (xs := xs) (j := j) (by omega), List.getElem_cons_succ, Int.pow_succ]
    grind

theorem val_take_succ : ∀ {b : List Int} {k : Nat} (h : k < b.length), val (b.take (k + 1)) = val (b.take k) + b[k] * 1000000 ^ k
  | x :: b, 0, _ => by simp [val]
  | x :: b, k + 1, h => by
    rw [List.length_cons] at h
    rw [List.take_succ_cons, List.take_succ_cons, val, val, val_take_succ (b := b) (k := k) (by omega), List.getElem_cons_succ, Int.pow_succ]
    grind

theorem val_lt : ∀ {xs : List Int}, limbs xs → 0 ≤ val xs ∧ val xs < 1000000 ^ xs.length
  | [], _ => by simp [val]
  | x :: xs, h => by
    have h1 := val_lt (xs := xs) fun y hy => h y (by simp [hy])
    have h2 := h x (by simp)
    rw [val, List.length_cons, Int.pow_succ]
    generalize (1000000 : Int) ^ xs.length = p at *
    omega

/-- One digit of a long multiplication. -/
theorem mul_digit {o : List Int} {j : Nat} {c c' d y T : Int} (hj : j < o.length) (h : val o + c * 1000000 ^ j = T) (hd : d + 1000000 * c' = o[j] + c + y) : val (o.set j d) + c' * 1000000 ^ (j + 1) = T + y * 1000000 ^ j := by
  rw [val_set hj, Int.pow_succ, ← h]
  generalize (1000000 : Int) ^ j = p at *
  have : d = o[j] + c + y - 1000000 * c' := by omega
  subst this
  grind

theorem pow_pos6 (n : Nat) : (0 : Int) < 1000000 ^ n := Int.pow_pos (by decide)

theorem pow_mono6 {m n : Nat} (h : m ≤ n) : (1000000 : Int) ^ m ≤ 1000000 ^ n := by
  obtain ⟨d, rfl⟩ := Nat.le.dest h
  rw [Int.pow_add]
  have h1 := pow_pos6 m
  have h2 := pow_pos6 d
  have : (1000000 : Int) ^ m * 1 ≤ 1000000 ^ m * 1000000 ^ d := Int.mul_le_mul_of_nonneg_left (by omega) (by omega)
  omega

/-- The carry of a long multiplication ends within the room there is. -/
theorem mul_room {a b o : List Int} {i k N : Nat} {c : Int} (ha : limbs a) (hb : limbs b) (ho : limbs o) (hi : i < a.length) (h : val o + c * 1000000 ^ (i + k) = val (a.take i) * val b + a[i]?.getD 0 * val (b.take k) * 1000000 ^ i) (hk : b.length ≤ k) (hc : 0 < c) (hN : a.length + b.length ≤ N) : i + k < N := by
  rw [List.getElem?_eq_getElem hi, Option.getD_some] at h
  refine Classical.byContradiction fun hn => ?_
  have e : val (a.take i) * val b + a[i] * val (b.take k) * 1000000 ^ i = val (a.take (i + 1)) * val b := by
    rw [val_take_succ hi, List.take_of_length_le hk]; grind
  rw [e] at h
  have h1 := val_lt (xs := a.take (i + 1)) fun x hx => ha x (List.mem_of_mem_take hx)
  have h2 := val_lt hb
  have h3 := val_lt ho
  have h4 : (a.take (i + 1)).length = i + 1 := by simp; omega
  rw [h4] at h1
  have h5 : (1000000 : Int) ^ (i + 1 + b.length) ≤ 1000000 ^ (i + k) := pow_mono6 (by omega)
  have h6 : val (a.take (i + 1)) * val b < 1000000 ^ (i + 1) * 1000000 ^ b.length := by
    have q1 := pow_pos6 (i + 1)
    have q2 := pow_pos6 b.length
    have : val (a.take (i + 1)) * val b ≤ val (a.take (i + 1)) * 1000000 ^ b.length := Int.mul_le_mul_of_nonneg_left (by omega) (by omega)
    have : val (a.take (i + 1)) * 1000000 ^ b.length < 1000000 ^ (i + 1) * 1000000 ^ b.length := Int.mul_lt_mul_of_pos_right (by omega) q2
    omega
  rw [← Int.pow_add] at h6
  have h7 : 1 * 1000000 ^ (i + k) ≤ c * (1000000 : Int) ^ (i + k) := Int.mul_le_mul_of_nonneg_right (by omega) (by have := pow_pos6 (i + k); omega)
  omega

/-- The limbs of a number. -/
def digs (n : Nat) : List Int := if h : n = 0 then [] else ((n % 1000000 : Nat) : Int) :: digs (n / 1000000)
  termination_by n
  decreasing_by omega

theorem digs_zero : digs 0 = [] := by rw [digs]; simp

theorem digs_of {x : Int} {m : Nat} (hx : 0 ≤ x ∧ x ≤ 999999) (h : 0 < x ∨ 0 < m) : digs (x.toNat + 1000000 * m) = x :: digs m := by
  rw [digs, dif_neg (by omega)]
  have h1 : (x.toNat + 1000000 * m) % 1000000 = x.toNat := by omega
  have h2 : (x.toNat + 1000000 * m) / 1000000 = m := by omega
  rw [h1, h2]
  congr 1
  omega

theorem digs_nil {n : Nat} : digs n = [] ↔ n = 0 := by
  rw [digs]; split <;> simp [*]

theorem trimZ_digs : ∀ {xs : List Int}, limbs xs → trimZ xs = digs (val xs).toNat
  | [], _ => by simp [trimZ_nil, val, digs_zero]
  | x :: xs, h => by
    have h1 := val_lt (xs := xs) fun y hy => h y (by simp [hy])
    have h2 := h x (by simp)
    have ih := trimZ_digs (xs := xs) fun y hy => h y (by simp [hy])
    rw [trimZ_cons, ih, val]
    have e : (x + 1000000 * val xs).toNat = x.toNat + 1000000 * (val xs).toNat := by omega
    rw [e]
    split
    · rename_i q
      have q2 := digs_nil.1 q.2
      rw [show x.toNat + 1000000 * (val xs).toNat = 0 from by omega, digs_zero]
    · rename_i q
      rw [digs_of h2 (by
        refine Classical.byContradiction fun hn => q ⟨by omega, digs_nil.2 (by omega)⟩)]

/-- The product of limbs. -/
def mulN (a b : List Int) : List Int := digs (val a * val b).toNat

theorem mulN_of {a b o : List Int} (ho : limbs o) (h : val o = val a * val b) : mulN a b = trimZ o := by
  rw [trimZ_digs ho, h]; rfl

theorem digs_limbs (n : Nat) : limbs (digs n) := by
  refine Nat.strongRecOn n fun n ih => ?_
  rw [digs]
  split
  · intro x hx; cases hx
  · intro x hx
    rcases List.mem_cons.1 hx with rfl | hx
    · omega
    · exact ih _ (by omega) x hx

theorem digs_len : ∀ (k n : Nat), n < 1000000 ^ k → (digs n).length ≤ k
  | 0, n, h => by
    have : n = 0 := by simpa using h
    subst this; simp [digs_zero]
  | k + 1, n, h => by
    rw [digs]
    split
    · simp
    · have := digs_len k (n / 1000000) (by rw [Nat.pow_succ] at h; exact Nat.div_lt_of_lt_mul (by omega))
      simp; omega

theorem mulN_len {a b : List Int} (ha : limbs a) (hb : limbs b) : (mulN a b).length ≤ a.length + b.length := by
  have h1 := val_lt ha
  have h2 := val_lt hb
  refine digs_len _ _ ?_
  have q1 := pow_pos6 a.length
  have q2 := pow_pos6 b.length
  have h3 : val a * val b ≤ val a * 1000000 ^ b.length := Int.mul_le_mul_of_nonneg_left (by omega) (by omega)
  have h4 : val a * 1000000 ^ b.length < 1000000 ^ a.length * 1000000 ^ b.length := Int.mul_lt_mul_of_pos_right (by omega) q2
  rw [← Int.pow_add] at h4
  have h5 : ((1000000 ^ (a.length + b.length) : Nat) : Int) = (1000000 : Int) ^ (a.length + b.length) := by simp
  have h6 : 0 ≤ val a * val b := Int.mul_nonneg h1.1 h2.1
  omega

theorem mulN_limbs (a b : List Int) : limbs (mulN a b) := digs_limbs _

/-- Division by a small number, from the top. -/
def divW (by_ : Int) : List Int → List Int × Int
  | [] => ([], 0)
  | x :: xs => (((divW by_ xs).2 * 1000000 + x) / by_ :: (divW by_ xs).1, ((divW by_ xs).2 * 1000000 + x) % by_)

theorem divW_len (d : Int) : ∀ xs, (divW d xs).1.length = xs.length
  | [] => rfl
  | x :: xs => by simp [divW, divW_len d xs]

theorem divW_rest {d : Int} (hd : 0 < d) : ∀ xs, 0 ≤ (divW d xs).2 ∧ (divW d xs).2 < d
  | [] => by simp [divW, hd]
  | x :: xs => by
    rw [divW]
    exact ⟨Int.emod_nonneg _ (by omega), Int.emod_lt_of_pos _ hd⟩

theorem divW_limbs {d : Int} (hd : 0 < d) : ∀ {xs : List Int}, limbs xs → limbs (divW d xs).1
  | [], _ => by intro x hx; cases hx
  | x :: xs, h => by
    have ih := divW_limbs hd (xs := xs) fun y hy => h y (by simp [hy])
    have hr := divW_rest hd xs
    have hx := h x (by simp)
    intro y hy
    rw [divW] at hy
    rcases List.mem_cons.1 hy with rfl | hy
    · generalize (divW d xs).2 = r at *
      constructor
      · exact Int.ediv_nonneg (by omega) (by omega)
      · have : (r * 1000000 + x) / d < 1000000 := Int.ediv_lt_of_lt_mul hd (by
          have h1 : r + 1 ≤ d := by omega
          have : (r + 1) * 1000000 ≤ d * 1000000 := Int.mul_le_mul_of_nonneg_right h1 (by omega)
          omega)
        omega
    · exact ih y hy

theorem divW_drop (d : Int) {xs : List Int} {k : Nat} (h : k < xs.length) : divW d (xs.drop k) = (((divW d (xs.drop (k + 1))).2 * 1000000 + xs[k]) / d :: (divW d (xs.drop (k + 1))).1, ((divW d (xs.drop (k + 1))).2 * 1000000 + xs[k]) % d) := by
  rw [List.drop_eq_getElem_cons h, divW]

def divN (a : List Int) (d : Int) : List Int × Int := (trimZ (divW d a).1, (divW d a).2)

theorem trimZ_mem {xs : List Int} {x : Int} (h : x ∈ trimZ xs) : x ∈ xs := by
  unfold trimZ at h
  have := (List.dropWhile_suffix (· == (0 : Int)) (l := xs.reverse)).subset (List.mem_reverse.1 h)
  simpa using this

theorem divN_len (a : List Int) (d : Int) : (divN a d).1.length ≤ a.length := by
  have := trimZ_len (divW d a).1
  rw [divW_len] at this; exact this

theorem divN_limbs {a : List Int} {d : Int} (hd : 0 < d) (h : limbs a) : limbs (divN a d).1 := fun x hx => divW_limbs hd h x (trimZ_mem hx)

theorem set_div {k : Nat} {x : Int} {l : List Int} : (List.replicate (k + 1) (0 : Int) ++ l).set k x = List.replicate k 0 ++ x :: l := by
  rw [List.replicate_succ', List.append_assoc, List.set_append_right _ _ (by simp)]
  simp

theorem mul_round1 {b u : List Int} {i k : Nat} {c c' d x W : Int} (hj : i + k < u.length) (hk : k < b.length) (h : val u + c * 1000000 ^ (i + k) = W + x * val (b.take k) * 1000000 ^ i) (hd : d + 1000000 * c' = u[i + k] + c + x * b[k]) : val (u.set (i + k) d) + c' * 1000000 ^ (i + (k + 1)) = W + x * val (b.take (k + 1)) * 1000000 ^ i := by
  rw [val_take_succ hk]
  have := mul_digit (y := x * b[k]) hj h hd
  rw [show i + (k + 1) = i + k + 1 from by omega, this, Int.pow_add]
  generalize (1000000 : Int) ^ i = p
  generalize (1000000 : Int) ^ k = q
  grind

theorem mul_round0 {b u : List Int} {i k : Nat} {c c' d x W : Int} (hj : i + k < u.length) (hk : b.length ≤ k) (h : val u + c * 1000000 ^ (i + k) = W + x * val (b.take k) * 1000000 ^ i) (hd : d + 1000000 * c' = u[i + k] + c) : val (u.set (i + k) d) + c' * 1000000 ^ (i + (k + 1)) = W + x * val (b.take (k + 1)) * 1000000 ^ i := by
  have := mul_digit (y := 0) (d := d) (c' := c') hj h (by omega)
  rw [show i + (k + 1) = i + k + 1 from by omega, this, List.take_of_length_le hk, List.take_of_length_le (by omega)]
  simp

theorem mul_end {a b u : List Int} {i k : Nat} {c : Int} (hi : i < a.length) (h : val u + c * 1000000 ^ (i + k) = val (a.take i) * val b + a[i]?.getD 0 * val (b.take k) * 1000000 ^ i) (hc : c = 0) (hk : b.length ≤ k) : val u = val (a.take (i + 1)) * val b := by
  rw [List.getElem?_eq_getElem hi, Option.getD_some, List.take_of_length_le hk, hc] at h
  rw [val_take_succ hi]
  grind

theorem mul_b6 {x y : Int} (hx : 0 ≤ x ∧ x ≤ 999999) (hy : 0 ≤ y ∧ y ≤ 999999) : 0 ≤ x * y ∧ x * y ≤ 999998000001 := by
  have h1 : x * y ≤ x * 999999 := Int.mul_le_mul_of_nonneg_left hy.2 hx.1
  exact ⟨Int.mul_nonneg hx.1 hy.1, by omega⟩

theorem div_bd6 {r x d : Int} (hd : 0 < d) (hr : 0 ≤ r ∧ r < d) (hx : 0 ≤ x ∧ x ≤ 999999) : (0 ≤ (r * 1000000 + x) / d ∧ (r * 1000000 + x) / d ≤ 999999) ∧ (0 ≤ (r * 1000000 + x) % d ∧ (r * 1000000 + x) % d < d) := by
  refine ⟨⟨Int.ediv_nonneg (by omega) (by omega), ?_⟩, Int.emod_nonneg _ (by omega), Int.emod_lt_of_pos _ hd⟩
  have : (r * 1000000 + x) / d < 1000000 := Int.ediv_lt_of_lt_mul hd (by
    have : (r + 1) * 1000000 ≤ d * 1000000 := Int.mul_le_mul_of_nonneg_right (by omega) (by omega)
    omega)
  omega

theorem set_divW {a : List Int} {d : Int} {k : Nat} (hk : 0 < k) (hl : k ≤ a.length) {x : Int} (hx : x = ((divW d (a.drop k)).2 * 1000000 + a[k - 1]) / d) : List.replicate (k - 1) (0 : Int) ++ (divW d (a.drop (k - 1))).1 = (List.replicate k 0 ++ (divW d (a.drop k)).1).set (k - 1) x := by
  obtain ⟨j, rfl⟩ : ∃ j, k = j + 1 := ⟨k - 1, by omega⟩
  simp only [Nat.add_sub_cancel] at hx ⊢
  rw [set_div, divW_drop d (by omega : j < a.length), hx]

theorem rest_divW {a : List Int} {d : Int} {k : Nat} (hk : 0 < k) (hl : k ≤ a.length) : (divW d (a.drop (k - 1))).2 = ((divW d (a.drop k)).2 * 1000000 + a[k - 1]) % d := by
  obtain ⟨j, rfl⟩ : ∃ j, k = j + 1 := ⟨k - 1, by omega⟩
  simp only [Nat.add_sub_cancel]
  rw [divW_drop d (by omega : j < a.length)]

def isNat (n : List Int) : Bool := decide ((n.length : Int) ≤ 40) && allW n 0 999999 && (((n.length : Int) == 0) || (n[n.length - 1]?.getD 0 != 0))

def isPos (n : List Int) : Bool := isNat n && decide (0 < (n.length : Int))

theorem isPos_facts {n : List Int} (h : isPos n = true) : limbs n ∧ n.length ≤ 40 ∧ 0 < n.length := by
  unfold isPos isNat at h
  simp only [Bool.and_eq_true, decide_eq_true_eq] at h
  exact ⟨allW_mem h.1.1.2, by omega, by omega⟩

theorem validFrac_facts {xs : List tFraction} (h : validFrac xs = true) : xs.length ≤ 100 ∧ ∀ x ∈ xs, (1 ≤ x.1 ∧ x.1 ≤ 999999) ∧ 1 ≤ x.2 ∧ x.2 ≤ 999999 := by
  unfold validFrac at h
  simp only [Bool.and_eq_true, Bool.not_eq_true', List.any_eq_false] at h
  have h1 := withinB_true.1 h.1
  refine ⟨by omega, fun x hx => ?_⟩
  have := h.2 x hx
  unfold fracBad at this
  simp only [Bool.or_eq_true, not_or, Bool.not_eq_true', Bool.not_eq_false] at this
  have h2 := withinB_true.1 this.1
  have h3 := withinB_true.1 this.2
  omega

def stepFr : List tFraction → List Int → Int → Option (List Int × Int)
  | [], _, _ => none
  | f :: fs, n, k => if (divN (mulN n [f.1]) f.2).2 = 0 then some ((divN (mulN n [f.1]) f.2).1, k) else stepFr fs n (k + 1)

theorem stepFr_hit {l : List tFraction} {n : List Int} {k : Nat} (hk : k < l.length) (h : (divN (mulN n [l[k].1]) l[k].2).2 = 0) : stepFr (l.drop k) n k = some ((divN (mulN n [l[k].1]) l[k].2).1, (k : Int)) := by
  rw [List.drop_eq_getElem_cons hk, stepFr, if_pos h]

theorem stepFr_miss {l : List tFraction} {n : List Int} {k : Nat} (hk : k < l.length) (h : ¬ (divN (mulN n [l[k].1]) l[k].2).2 = 0) : stepFr (l.drop k) n k = stepFr (l.drop (k + 1)) n ((k + 1 : Nat) : Int) := by
  rw [List.drop_eq_getElem_cons hk, stepFr, if_neg h]; rfl

def stepFI (l : List tFraction) (n : List Int) : List Int × Int := (stepFr l n 0).getD (n, -1)

def okFr (l : List tFraction) : Prop := ∀ x ∈ l, (1 ≤ x.1 ∧ x.1 ≤ 999999) ∧ 1 ≤ x.2 ∧ x.2 ≤ 999999

theorem stepFr_some : ∀ (l : List tFraction) (n : List Int) (k : Int) (r : List Int × Int), okFr l → limbs n → stepFr l n k = some r → limbs r.1 ∧ r.1.length ≤ n.length + 1
  | [], _, _, _, _, _, h => by cases h
  | f :: fs, n, k, r, ho, hn, h => by
    rw [stepFr] at h
    have hf := ho f (by simp)
    have hb : limbs [f.1] := fun x hx => by simp at hx; omega
    split at h
    · cases h
      have h1 := mulN_len hn hb
      have h2 := divN_len (mulN n [f.1]) f.2
      simp at h1
      exact ⟨divN_limbs (by omega) (mulN_limbs _ _), by simp only; omega⟩
    · exact stepFr_some fs n (k + 1) r (fun x hx => ho x (by simp [hx])) hn h

theorem stepFI_facts {l : List tFraction} {n : List Int} (ho : okFr l) (hn : limbs n) (h : 0 ≤ (stepFI l n).2) : limbs (stepFI l n).1 ∧ (stepFI l n).1.length ≤ n.length + 1 := by
  unfold stepFI at h ⊢
  cases hq : stepFr l n 0 with
  | none => rw [hq] at h; simp at h
  | some r => exact stepFr_some l n 0 r ho hn hq

/-- A run, with so many steps left. -/
def runFr (l : List tFraction) : Nat → List Int → Int → List Int × Int × Bool × Int
  | 0, y, k => (y, k, decide ((stepFI l y).2 < 0), 0)
  | g + 1, y, k => if (stepFI l y).2 < 0 then (y, k, true, 0) else if 40 < ((stepFI l y).1.length : Int) then ([], 0, false, 5) else runFr l g (stepFI l y).1 (k + 1)

def runFI (l : List tFraction) (n : List Int) (m : Int) : List Int × Int × Bool × Int := runFr l m.toNat n 0

def runFracs (l : List tFraction) (n : List Int) (m : Int) : List Int × Int × Bool × Int :=
  if validFrac l && isPos n then (if budgetB m then runFI l n m else ([], 0, false, 2)) else ([], 0, false, 1)

theorem runFr_step {l : List tFraction} {f g : Nat} {y : List Int} {k : Int} (hf : f = g + 1) (h1 : ¬ (stepFI l y).2 < 0) (h2 : ¬ 40 < ((stepFI l y).1.length : Int)) : runFr l f y k = runFr l g (stepFI l y).1 (k + 1) := by
  subst hf; rw [runFr, if_neg h1, if_neg h2]

theorem runFr_eq (l : List tFraction) (f : Nat) (y : List Int) (k : Int) : runFr l f y k = if (stepFI l y).2 < 0 then (y, k, true, 0) else if f = 0 then (y, k, false, 0) else if 40 < ((stepFI l y).1.length : Int) then ([], 0, false, 5) else runFr l (f - 1) (stepFI l y).1 (k + 1) := by
  cases f with
  | zero => rw [runFr]; split <;> simp [*]
  | succ f => rw [runFr]; split <;> simp

def yes (_ : List Int) : Bool := true

set_option maxRecDepth 100000 in
set_option maxHeartbeats 4000000 in
theorem impl_IsNatural (A0 : Option Addr) (c0 : Nat) (a0 : (List Int)) (w : World) (h0 : Sl eInt w (Old w) A0 c0 a0) :
    Calls Tryz.prog 41 #[.slice A0 a0.length c0] w fun e w' => e = .returned (.bool (isNat a0)) ∧ w = w' := by
  have l0 := h0.len
  have HH1 := Held.start Nob w
  refine enter (n := 24) Tryz.func41 rfl rfl rfl fun a_2 HE3 => ?_
  refine wp_seq ?_
  refine rg ?_
  refine pl_x HE3 HH1 (wt0 rfl) (x_assign rfl) rfl rfl fun a_4 HE5 => ?_
  refine wpList_nil ?_
  clear a_2 HE3
  refine nrm ?_
  refine wp_seq ?_
  refine rg ?_
  refine pl_x HE5 HH1 (wt0 rfl) (x_move rfl) rfl rfl fun a_6 HE7 => ?_
  refine pl_x HE7 HH1 (wt0 rfl) (x_len Tryz.underlying25 rfl) rfl rfl fun a_8 HE9 => ?_
  refine pl_x HE9 HH1 (wt0 rfl) (x_leq rfl rfl) rfl rfl fun a_10 HE11 => ?_
  refine pl_x HE11 HH1 (wt0 rfl) (x_move rfl) rfl rfl fun a_12 HE13 => ?_
  by_cases hc21 : (a0.length : Int) ≤ 40
  · refine pl_x HE13 HH1 (wtT HE13 rfl rfl rfl (decide_eq_true hc21)) (x_move rfl) rfl rfl fun a_14 HE15 => ?_
    refine pl fun K_16 hK17 => ?_
    refine st_call HE15 (wtT HE15 rfl rfl rfl (decide_eq_true hc21)) rfl rfl rfl en_54 rfl rfl (impl_allWithin _ _ a0 0 999999 _ (HH1.old h0)) fun e w' hr => ?_
    obtain ⟨rfl, rfl⟩ := hr
    refine ⟨_, rfl, fun a_18 HE19 => hK17 _ _ ?_⟩
    refine pl_x HE19 HH1 (wt0 rfl) (x_pickT rfl (decide_eq_true hc21) rfl) rfl rfl fun a_20 HE21 => ?_
    refine pl_x HE21 HH1 (wt0 rfl) (x_move rfl) rfl rfl fun a_22 HE23 => ?_
    rcases Bool.eq_false_or_eq_true ((allW a0 0 999999)) with hc23 | hc23
    · refine pl_x HE23 HH1 (wtT HE23 rfl rfl rfl hc23) (x_move rfl) rfl rfl fun a_24 HE25 => ?_
      refine pl_x HE25 HH1 (wtT HE25 rfl rfl rfl hc23) (x_len Tryz.underlying25 rfl) rfl rfl fun a_26 HE27 => ?_
      refine pl_x HE27 HH1 (wtT HE27 rfl rfl rfl hc23) (x_eql rfl rfl) rfl rfl fun a_28 HE29 => ?_
      refine pl_x HE29 HH1 (wtT HE29 rfl rfl rfl hc23) (x_move rfl) rfl rfl fun a_30 HE31 => ?_
      by_cases hc24 : (a0.length : Int) = 0
      · refine pl_no HE31 (wtF HE31 rfl rfl rfl (beq_t hc24)) rfl rfl fun a_32 HE33 => ?_
        refine pl_no HE33 (wtF HE33 rfl rfl rfl (beq_t hc24)) rfl rfl fun a_34 HE35 => ?_
        refine pl_no HE35 (wtF HE35 rfl rfl rfl (beq_t hc24)) rfl rfl fun a_36 HE37 => ?_
        refine pl_no HE37 (wtF HE37 rfl rfl rfl (beq_t hc24)) rfl rfl fun a_38 HE39 => ?_
        refine pl_no HE39 (wtF HE39 rfl rfl rfl (beq_t hc24)) rfl rfl fun a_40 HE41 => ?_
        refine pl_no HE41 (wtF HE41 rfl rfl rfl (beq_t hc24)) rfl rfl fun a_42 HE43 => ?_
        refine pl_no HE43 (wtF HE43 rfl rfl rfl (beq_t hc24)) rfl rfl fun a_44 HE45 => ?_
        refine pl_x HE45 HH1 (wtT HE45 rfl rfl rfl hc23) (x_pickT rfl (beq_t hc24) rfl) rfl rfl fun a_46 HE47 => ?_
        refine pl_x HE47 HH1 (wt0 rfl) (x_pickT rfl hc23 rfl) rfl rfl fun a_48 HE49 => ?_
        refine pl_x HE49 HH1 (wt0 rfl) (x_assign rfl) rfl rfl fun a_50 HE51 => ?_
        refine wpList_nil ?_
        clear a_4 HE5 a_6 HE7 a_8 HE9 a_10 HE11 a_12 HE13 a_14 HE15 a_18 HE19 a_20 HE21 a_22 HE23 a_24 HE25 a_26 HE27 a_28 HE29 a_30 HE31 a_32 HE33 a_34 HE35 a_36 HE37 a_38 HE39 a_40 HE41 a_42 HE43 a_44 HE45 a_46 HE47 a_48 HE49 hK17 K_16
        refine nrm ?_
        refine wp_ret ?_
        refine ret1 HE51 rfl (rv_tmp rfl) ?_
        have hF : (isNat a0) = true := by
          first | rfl | (simp [isNat, hc21, hc23, hc24]; done) | (simp [isNat, hc21, hc23, hc24]; omega) | grind [isNat]
        exact ⟨by first | (rw [hF] <;> rfl) | rfl | (rw [hF]; simp only [Ending.returned.injEq, Value.slice.injEq, true_and, and_true]; first | omega | (simp; done)) | (rw [hF]; simp; omega), rfl⟩
      · refine pl_x HE31 HH1 (wtT HE31 rfl rfl rfl (beq_f hc24)) (x_move rfl) rfl rfl fun a_52 HE53 => ?_
        refine pl_x HE53 HH1 (wtT HE53 rfl rfl rfl (beq_f hc24)) (x_move rfl) rfl rfl fun a_54 HE55 => ?_
        refine pl_x HE55 HH1 (wtT HE55 rfl rfl rfl (beq_f hc24)) (x_len Tryz.underlying25 rfl) rfl rfl fun a_56 HE57 => ?_
        refine pl_x HE57 HH1 (wtT HE57 rfl rfl rfl (beq_f hc24)) (x_sub rfl rfl (by exact ⟨by omega, by omega⟩)) rfl rfl fun a_58 HE59 => ?_
        have ke25 : (a0.length - 1) < a0.length := by omega
        obtain ⟨be25, fe25, ese25, Ae25, Re25, De25⟩ := el_old h0 ke25
        obtain ⟨e25, xe25⟩ : ∃ x_, x_ = a0[(a0.length - 1)] := ⟨_, rfl⟩
        rw [← xe25] at Re25
        have Qe25 := Re25
        obtain ⟨rfl, ie25⟩ := Re25
        have je25 := ie25; unfold I64 at je25
        refine pl_x HE59 HH1 (wtT HE59 rfl rfl rfl (beq_f hc24)) (x_indexAddr ts_25 rfl rfl Ae25 (by omega) ke25) rfl rfl fun a_60 HE61 => ?_
        refine pl_x HE61 HH1 (wtT HE61 rfl rfl rfl (beq_f hc24)) (x_load1 tv_2 rfl (c_old (De25 0 _ rfl))) rfl rfl fun a_62 HE63 => ?_
        refine pl_x HE63 HH1 (wtT HE63 rfl rfl rfl (beq_f hc24)) (x_neq rfl rfl) rfl rfl fun a_64 HE65 => ?_
        refine pl_x HE65 HH1 (wtT HE65 rfl rfl rfl hc23) (x_pickF rfl (beq_f hc24) rfl) rfl rfl fun a_66 HE67 => ?_
        refine pl_x HE67 HH1 (wt0 rfl) (x_pickT rfl hc23 rfl) rfl rfl fun a_68 HE69 => ?_
        refine pl_x HE69 HH1 (wt0 rfl) (x_assign rfl) rfl rfl fun a_70 HE71 => ?_
        refine wpList_nil ?_
        clear a_4 HE5 a_6 HE7 a_8 HE9 a_10 HE11 a_12 HE13 a_14 HE15 a_18 HE19 a_20 HE21 a_22 HE23 a_24 HE25 a_26 HE27 a_28 HE29 a_30 HE31 a_52 HE53 a_54 HE55 a_56 HE57 a_58 HE59 a_60 HE61 a_62 HE63 a_64 HE65 a_66 HE67 a_68 HE69 hK17 K_16
        refine nrm ?_
        refine wp_ret ?_
        refine ret1 HE71 rfl (rv_tmp rfl) ?_
        have hF : (isNat a0) = (e25 != 0) := by
          first | rfl | (simp [isNat, hc21, hc23, hc24, xe25]; done) | (simp [isNat, hc21, hc23, hc24, xe25]; omega) | grind [isNat]
        exact ⟨by first | (rw [hF] <;> rfl) | rfl | (rw [hF]; simp only [Ending.returned.injEq, Value.slice.injEq, true_and, and_true]; first | omega | (simp; done)) | (rw [hF]; simp; omega), rfl⟩
    · refine pl_no HE23 (wtF HE23 rfl rfl rfl hc23) rfl rfl fun a_72 HE73 => ?_
      refine pl_no HE73 (wtF HE73 rfl rfl rfl hc23) rfl rfl fun a_74 HE75 => ?_
      refine pl_no HE75 (wtF HE75 rfl rfl rfl hc23) rfl rfl fun a_76 HE77 => ?_
      refine pl_no HE77 (wtF HE77 rfl rfl rfl hc23) rfl rfl fun a_78 HE79 => ?_
      refine pl_no HE79 (wtU HE79 rfl rfl rfl) rfl rfl fun a_80 HE81 => ?_
      refine pl_no HE81 (wtU HE81 rfl rfl rfl) rfl rfl fun a_82 HE83 => ?_
      refine pl_no HE83 (wtU HE83 rfl rfl rfl) rfl rfl fun a_84 HE85 => ?_
      refine pl_no HE85 (wtU HE85 rfl rfl rfl) rfl rfl fun a_86 HE87 => ?_
      refine pl_no HE87 (wtU HE87 rfl rfl rfl) rfl rfl fun a_88 HE89 => ?_
      refine pl_no HE89 (wtU HE89 rfl rfl rfl) rfl rfl fun a_90 HE91 => ?_
      refine pl_no HE91 (wtU HE91 rfl rfl rfl) rfl rfl fun a_92 HE93 => ?_
      refine pl_no HE93 (wtF HE93 rfl rfl rfl hc23) rfl rfl fun a_94 HE95 => ?_
      refine pl_x HE95 HH1 (wt0 rfl) (x_pickF rfl hc23 rfl) rfl rfl fun a_96 HE97 => ?_
      refine pl_x HE97 HH1 (wt0 rfl) (x_assign rfl) rfl rfl fun a_98 HE99 => ?_
      refine wpList_nil ?_
      clear a_4 HE5 a_6 HE7 a_8 HE9 a_10 HE11 a_12 HE13 a_14 HE15 a_18 HE19 a_20 HE21 a_22 HE23 a_72 HE73 a_74 HE75 a_76 HE77 a_78 HE79 a_80 HE81 a_82 HE83 a_84 HE85 a_86 HE87 a_88 HE89 a_90 HE91 a_92 HE93 a_94 HE95 a_96 HE97 hK17 K_16
      refine nrm ?_
      refine wp_ret ?_
      refine ret1 HE99 rfl (rv_tmp rfl) ?_
      have hF : (isNat a0) = false := by
        first | rfl | (simp [isNat, hc21, hc23]; done) | (simp [isNat, hc21, hc23]; omega) | grind [isNat]
      exact ⟨by first | (rw [hF] <;> rfl) | rfl | (rw [hF]; simp only [Ending.returned.injEq, Value.slice.injEq, true_and, and_true]; first | omega | (simp; done)) | (rw [hF]; simp; omega), rfl⟩
  · refine pl_no HE13 (wtF HE13 rfl rfl rfl (decide_eq_false hc21)) rfl rfl fun a_100 HE101 => ?_
    refine pl_no HE101 (wtF HE101 rfl rfl rfl (decide_eq_false hc21)) rfl rfl fun a_102 HE103 => ?_
    refine pl_x HE103 HH1 (wt0 rfl) (x_pickF rfl (decide_eq_false hc21) rfl) rfl rfl fun a_104 HE105 => ?_
    refine pl_x HE105 HH1 (wt0 rfl) (x_move rfl) rfl rfl fun a_106 HE107 => ?_
    refine pl_no HE107 (wtF HE107 rfl rfl rfl rfl) rfl rfl fun a_108 HE109 => ?_
    refine pl_no HE109 (wtF HE109 rfl rfl rfl rfl) rfl rfl fun a_110 HE111 => ?_
    refine pl_no HE111 (wtF HE111 rfl rfl rfl rfl) rfl rfl fun a_112 HE113 => ?_
    refine pl_no HE113 (wtF HE113 rfl rfl rfl rfl) rfl rfl fun a_114 HE115 => ?_
    refine pl_no HE115 (wtU HE115 rfl rfl rfl) rfl rfl fun a_116 HE117 => ?_
    refine pl_no HE117 (wtU HE117 rfl rfl rfl) rfl rfl fun a_118 HE119 => ?_
    refine pl_no HE119 (wtU HE119 rfl rfl rfl) rfl rfl fun a_120 HE121 => ?_
    refine pl_no HE121 (wtU HE121 rfl rfl rfl) rfl rfl fun a_122 HE123 => ?_
    refine pl_no HE123 (wtU HE123 rfl rfl rfl) rfl rfl fun a_124 HE125 => ?_
    refine pl_no HE125 (wtU HE125 rfl rfl rfl) rfl rfl fun a_126 HE127 => ?_
    refine pl_no HE127 (wtU HE127 rfl rfl rfl) rfl rfl fun a_128 HE129 => ?_
    refine pl_no HE129 (wtF HE129 rfl rfl rfl rfl) rfl rfl fun a_130 HE131 => ?_
    refine pl_x HE131 HH1 (wt0 rfl) (x_pickF rfl rfl rfl) rfl rfl fun a_132 HE133 => ?_
    refine pl_x HE133 HH1 (wt0 rfl) (x_assign rfl) rfl rfl fun a_134 HE135 => ?_
    refine wpList_nil ?_
    clear a_4 HE5 a_6 HE7 a_8 HE9 a_10 HE11 a_12 HE13 a_100 HE101 a_102 HE103 a_104 HE105 a_106 HE107 a_108 HE109 a_110 HE111 a_112 HE113 a_114 HE115 a_116 HE117 a_118 HE119 a_120 HE121 a_122 HE123 a_124 HE125 a_126 HE127 a_128 HE129 a_130 HE131 a_132 HE133
    refine nrm ?_
    refine wp_ret ?_
    refine ret1 HE135 rfl (rv_tmp rfl) ?_
    have hF : (isNat a0) = false := by
      first | rfl | (simp [isNat, hc21]; done) | (simp [isNat, hc21]; omega) | grind [isNat]
    exact ⟨by first | (rw [hF] <;> rfl) | rfl | (rw [hF]; simp only [Ending.returned.injEq, Value.slice.injEq, true_and, and_true]; first | omega | (simp; done)) | (rw [hF]; simp; omega), rfl⟩

set_option maxRecDepth 100000 in
set_option maxHeartbeats 4000000 in
theorem impl_isPositive (A0 : Option Addr) (c0 : Nat) (a0 : (List Int)) (w : World) (h0 : Sl eInt w (Old w) A0 c0 a0) :
    Calls Tryz.prog 49 #[.slice A0 a0.length c0] w fun e w' => e = .returned (.bool (isPos a0)) ∧ w = w' := by
  have l0 := h0.len
  have HH1 := Held.start Nob w
  refine enter (n := 10) Tryz.func49 rfl rfl rfl fun a_2 HE3 => ?_
  refine wp_seq ?_
  refine rg ?_
  refine pl_x HE3 HH1 (wt0 rfl) (x_assign rfl) rfl rfl fun a_4 HE5 => ?_
  refine wpList_nil ?_
  clear a_2 HE3
  refine nrm ?_
  refine wp_seq ?_
  refine rg ?_
  refine pl_x HE5 HH1 (wt0 rfl) (x_move rfl) rfl rfl fun a_6 HE7 => ?_
  refine pl fun K_8 hK9 => ?_
  refine st_call HE7 (wt0 rfl) rfl rfl rfl en_41 rfl rfl (impl_IsNatural _ _ a0 _ (HH1.old h0)) fun e w' hr => ?_
  obtain ⟨rfl, rfl⟩ := hr
  refine ⟨_, rfl, fun a_10 HE11 => hK9 _ _ ?_⟩
  refine pl_x HE11 HH1 (wt0 rfl) (x_move rfl) rfl rfl fun a_12 HE13 => ?_
  rcases Bool.eq_false_or_eq_true ((isNat a0)) with hc22 | hc22
  · refine pl_x HE13 HH1 (wtT HE13 rfl rfl rfl hc22) (x_move rfl) rfl rfl fun a_14 HE15 => ?_
    refine pl_x HE15 HH1 (wtT HE15 rfl rfl rfl hc22) (x_len Tryz.underlying25 rfl) rfl rfl fun a_16 HE17 => ?_
    refine pl_x HE17 HH1 (wtT HE17 rfl rfl rfl hc22) (x_gtr rfl rfl) rfl rfl fun a_18 HE19 => ?_
    refine pl_x HE19 HH1 (wt0 rfl) (x_pickT rfl hc22 rfl) rfl rfl fun a_20 HE21 => ?_
    refine pl_x HE21 HH1 (wt0 rfl) (x_assign rfl) rfl rfl fun a_22 HE23 => ?_
    refine wpList_nil ?_
    clear a_4 HE5 a_6 HE7 a_10 HE11 a_12 HE13 a_14 HE15 a_16 HE17 a_18 HE19 a_20 HE21 hK9 K_8
    refine nrm ?_
    refine wp_ret ?_
    refine ret1 HE23 rfl (rv_tmp rfl) ?_
    have hF : (isPos a0) = decide (0 < (a0.length : Int)) := by
      first | rfl | (simp [isPos, hc22]; done) | (simp [isPos, hc22]; omega) | grind [isPos]
    exact ⟨by first | (rw [hF] <;> rfl) | rfl | (rw [hF]; simp only [Ending.returned.injEq, Value.slice.injEq, true_and, and_true]; first | omega | (simp; done)) | (rw [hF]; simp; omega), rfl⟩
  · refine pl_no HE13 (wtF HE13 rfl rfl rfl hc22) rfl rfl fun a_24 HE25 => ?_
    refine pl_no HE25 (wtF HE25 rfl rfl rfl hc22) rfl rfl fun a_26 HE27 => ?_
    refine pl_no HE27 (wtF HE27 rfl rfl rfl hc22) rfl rfl fun a_28 HE29 => ?_
    refine pl_x HE29 HH1 (wt0 rfl) (x_pickF rfl hc22 rfl) rfl rfl fun a_30 HE31 => ?_
    refine pl_x HE31 HH1 (wt0 rfl) (x_assign rfl) rfl rfl fun a_32 HE33 => ?_
    refine wpList_nil ?_
    clear a_4 HE5 a_6 HE7 a_10 HE11 a_12 HE13 a_24 HE25 a_26 HE27 a_28 HE29 a_30 HE31 hK9 K_8
    refine nrm ?_
    refine wp_ret ?_
    refine ret1 HE33 rfl (rv_tmp rfl) ?_
    have hF : (isPos a0) = false := by
      first | rfl | (simp [isPos, hc22]; done) | (simp [isPos, hc22]; omega) | grind [isPos]
    exact ⟨by first | (rw [hF] <;> rfl) | rfl | (rw [hF]; simp only [Ending.returned.injEq, Value.slice.injEq, true_and, and_true]; first | omega | (simp; done)) | (rw [hF]; simp; omega), rfl⟩

set_option maxRecDepth 100000 in
set_option maxHeartbeats 4000000 in
theorem impl_divideSmall (A0 : Option Addr) (c0 : Nat) (a0 : (List Int)) (a1 : Int) (w : World) (h0 : Sl eInt w (Old w) A0 c0 a0) (s0 : limbs a0) (s1 : 1 ≤ a1 ∧ a1 ≤ 999999) (s2 : a0.length ≤ 1000000000) :
    Calls Tryz.prog 60 #[.slice A0 a0.length c0, .int .i64 a1] w fun e w' => ∃ (A0' : Option Addr) (c0' : Nat), e = .returned (.tuple #[.slice A0' (divN a0 a1).1.length c0', .int .i64 (divN a0 a1).2]) ∧ So eInt w' (Fr w w') A0' c0' (divN a0 a1).1 ∧ Below w.heap.size w w' := by
  have l0 := h0.len
  have HH1 := Held.start Nob w
  refine enter (n := 38) Tryz.func60 rfl rfl rfl fun a_2 HE3 => ?_
  refine wp_seq ?_
  refine rg ?_
  refine pl_x HE3 HH1 (wt0 rfl) (x_assign rfl) rfl rfl fun a_4 HE5 => ?_
  refine pl_x HE5 HH1 (wt0 rfl) (x_assign rfl) rfl rfl fun a_6 HE7 => ?_
  refine wpList_nil ?_
  clear a_2 HE3 a_4 HE5
  refine nrm ?_
  refine wp_seq ?_
  refine rg ?_
  refine pl_x HE7 HH1 (wt0 rfl) (x_move rfl) rfl rfl fun a_8 HE9 => ?_
  refine pl_x HE9 HH1 (wt0 rfl) (x_len Tryz.underlying25 rfl) rfl rfl fun a_10 HE11 => ?_
  refine pl fun K_12 hK13 => ?_
  refine st_make (E := eInt) (x := (0 : Int)) (k := a0.length) HE11 HH1 ts_25 tv_2 rfl (fun _ => oI ⟨by omega, by omega⟩) rfl rfl rfl rfl (by omega) (by omega) (wt0 rfl) rfl fun q21 a_14 w' HE15 HH16 => hK13 _ _ ?_
  have hlq21 : (List.replicate a0.length (0 : Int)).length = a0.length := List.length_replicate
  refine pl_x HE15 HH16 (wt0 rfl) (x_assign rfl) rfl rfl fun a_17 HE18 => ?_
  refine pl_x HE18 HH16 (wt0 rfl) (x_assign rfl) rfl rfl fun a_19 HE20 => ?_
  refine wpList_nil ?_
  clear a_6 HE7 a_8 HE9 a_10 HE11 HH1 a_14 HE15 a_17 HE18 hK13 K_12
  refine nrm ?_
  refine wp_seq ?_
  refine wp_seq ?_
  refine rg ?_
  refine pl_x HE20 HH16 (wt0 rfl) (x_move rfl) rfl rfl fun a_21 HE22 => ?_
  refine pl_x HE22 HH16 (wt0 rfl) (x_len Tryz.underlying25 rfl) rfl rfl fun a_23 HE24 => ?_
  refine pl_x HE24 HH16 (wt0 rfl) (x_sub rfl rfl (by exact ⟨by omega, by omega⟩)) rfl rfl fun a_25 HE26 => ?_
  refine pl_x HE26 HH16 (wt0 rfl) (x_assign rfl) rfl rfl fun a_27 HE28 => ?_
  refine wpList_nil ?_
  clear a_19 HE20 a_21 HE22 a_23 HE24 a_25 HE26
  refine nrm ?_
  refine wp_block ?_
  refine lp (fun m a w' => ∃ (k : Nat), m = 0 + k ∧ Env 38 [(7, .int .i64 (divW a1 (a0.drop k)).2), (8, .int .i64 ((k : Int) - 1)), (0, .slice A0 (a0.length) c0), (1, .int .i64 (a1)), (6, .slice (some ⟨q21, 0, none⟩) ((List.replicate a0.length (0 : Int)).length) a0.length)] a ∧ Held Nob w [rSo eInt (fun b => b = q21) (some ⟨q21, 0, none⟩) a0.length (List.replicate k (0 : Int) ++ (divW a1 (a0.drop k)).1)] w' ∧ (k ≤ a0.length)) (0 + (a0.length)) ?_ ?_
  · have E22 : List.replicate (a0.length) (0 : Int) ++ (divW a1 (a0.drop (a0.length))).1 = (List.replicate a0.length (0 : Int)) := by
      rw [List.drop_length]; simp [divW]
    exact ⟨a0.length, rfl, HE28.sub ⟨(lkI rfl (by rw [List.drop_length]; rfl)), rfl, rfl, rfl, rfl, trivial⟩, ((HH16.sel [0] (by decide) rfl).to (by first | rfl | (rw [E22]; done) | (rw [E22]; rfl) | (simp only [E22]; done) | (simp only [E22]; rfl) | (rw [E22]; simp only [List.length_set]; done))), (by first | omega | assumption | (simp; done) | simp_all)⟩
  · rintro m a_29 w' ⟨k, rfl, HE30, HH31, p23_0⟩
    have dr := divW_rest (by omega : 0 < a1) (a0.drop k)
    have dl := divW_len a1 (a0.drop k)
    have dm : (List.replicate k (0 : Int) ++ (divW a1 (a0.drop k)).1).length = a0.length := by rw [List.length_append, dl, List.length_replicate, List.length_drop]; omega
    refine wp_seq ?_
    refine wp_seq ?_
    refine rg ?_
    refine pl_x HE30 HH31 (wt0 rfl) (x_move rfl) rfl rfl fun a_32 HE33 => ?_
    refine pl_x HE33 HH31 (wt0 rfl) (x_geq rfl rfl) rfl rfl fun a_34 HE35 => ?_
    refine wpList_nil ?_
    clear a_27 HE28 HH16 a_29 HE30 a_32 HE33
    refine nrm ?_
    refine cnd_d HE35 rfl (fun hc24 => ?_) (fun hc24 => ?_)
    · refine wp_skip ?_
      refine nrm ?_
      refine wp_seq ?_
      refine wp_block ?_
      refine wp_seq ?_
      refine rg ?_
      refine pl_x HE35 HH31 (wt0 rfl) (x_move rfl) rfl rfl fun a_36 HE37 => ?_
      refine pl_x HE37 HH31 (wt0 rfl) (x_mul rfl rfl (by exact ⟨by omega, by omega⟩)) rfl rfl fun a_38 HE39 => ?_
      refine pl_x HE39 HH31 (wt0 rfl) (x_move rfl) rfl rfl fun a_40 HE41 => ?_
      refine pl_x HE41 HH31 (wt0 rfl) (x_move rfl) rfl rfl fun a_42 HE43 => ?_
      have ke25 : (k - 1) < a0.length := by omega
      obtain ⟨be25, fe25, ese25, Ae25, Re25, De25⟩ := el_old h0 ke25
      obtain ⟨e25, xe25⟩ : ∃ x_, x_ = a0[(k - 1)] := ⟨_, rfl⟩
      rw [← xe25] at Re25
      have Qe25 := Re25
      obtain ⟨rfl, ie25⟩ := Re25
      have je25 := ie25; unfold I64 at je25
      have be25 := s0 e25 (by rw [xe25]; exact List.getElem_mem _)
      have de25 := div_bd6 (x := e25) (by omega : 0 < a1) dr be25
      refine pl_x HE43 HH31 (wt0 rfl) (x_indexAddr ts_25 rfl rfl Ae25 (by omega) ke25) rfl rfl fun a_44 HE45 => ?_
      refine pl_x HE45 HH31 (wt0 rfl) (x_load1 tv_2 rfl (c_old (De25 0 _ rfl))) rfl rfl fun a_46 HE47 => ?_
      refine pl_x HE47 HH31 (wt0 rfl) (x_add rfl rfl (by exact ⟨by omega, by omega⟩)) rfl rfl fun a_48 HE49 => ?_
      refine pl_x HE49 HH31 (wt0 rfl) (x_assign rfl) rfl rfl fun a_50 HE51 => ?_
      refine wpList_nil ?_
      clear a_34 HE35 a_36 HE37 a_38 HE39 a_40 HE41 a_42 HE43 a_44 HE45 a_46 HE47 a_48 HE49
      refine nrm ?_
      refine dr_start (Held Nob w []) 11 #[false, false, false, false, false, false, false, false, false, false, false] hmix rfl rfl HH31 (fun _ h => h.sel [] (by decide) rfl) fun w' HH52 => ?_
      have HS53 := HH52.sel [] (by decide) rfl
      refine dr_take (i := 0) (ls' := #[true, false, false, false, false, false, false, false, false, false, false]) HE51 HS53 rfl (by kernel_rfl) (by kernel_rfl) (by kernel_rfl) (fun _ _ _ h => h) rfl (wt0 rfl) (x_move rfl) rfl rfl fun a_54 HE55 => ?_
      refine dr_take (i := 1) (ls' := #[true, true, false, false, false, false, false, false, false, false, false]) HE55 HS53 rfl (by kernel_rfl) (by kernel_rfl) (by kernel_rfl) (fun _ _ _ h => h) rfl (wt0 rfl) (x_move rfl) rfl rfl fun a_56 HE57 => ?_
      refine dr_take (i := 2) (ls' := #[true, true, true, false, false, false, false, false, false, false, false]) HE57 HS53 rfl (by kernel_rfl) (by kernel_rfl) (by kernel_rfl) (fun _ _ _ h => h) rfl (wt0 rfl) (x_move rfl) rfl rfl fun a_58 HE59 => ?_
      refine dr_take (i := 3) (ls' := #[true, true, true, true, false, false, false, false, false, false, false]) HE59 HS53 rfl (by kernel_rfl) (by kernel_rfl) (by kernel_rfl) (fun _ _ _ h => h) rfl (wt0 rfl) (x_move rfl) rfl rfl fun a_60 HE61 => ?_
      refine dr_take (i := 4) (ls' := #[true, true, true, true, true, false, false, false, false, false, false]) HE61 HS53 rfl (by kernel_rfl) (by kernel_rfl) (by kernel_rfl) (fun _ _ _ h => h) rfl (wt0 rfl) (x_quo rfl rfl (by omega) (by omega) (by omega)) rfl rfl fun a_62 HE63 => ?_
      refine dr_take (i := 5) (ls' := #[true, true, true, true, true, true, false, false, false, false, false]) HE63 HS53 rfl (by kernel_rfl) (by kernel_rfl) (by kernel_rfl) (fun _ _ _ h => h) rfl (wt0 rfl) (x_move rfl) rfl rfl fun a_64 HE65 => ?_
      refine dr_take (i := 6) (ls' := #[true, true, true, true, true, true, true, false, false, false, false]) HE65 HS53 rfl (by kernel_rfl) (by kernel_rfl) (by kernel_rfl) (fun _ _ _ h => h) rfl (wt0 rfl) (x_move rfl) rfl rfl fun a_66 HE67 => ?_
      refine dr_take (i := 7) (ls' := #[true, true, true, true, true, true, true, true, false, false, false]) HE67 HS53 rfl (by kernel_rfl) (by kernel_rfl) (by kernel_rfl) (fun _ _ _ h => h) rfl (wt0 rfl) (x_rem rfl rfl (by omega) (by omega)) rfl rfl fun a_68 HE69 => ?_
      have ke26 : (k - 1) < (List.replicate a0.length (0 : Int)).length := by omega
      refine dr_take (i := 8) (ls' := #[true, true, true, true, true, true, true, true, true, false, false]) HE69 HS53 rfl (by kernel_rfl) (by kernel_rfl) (by kernel_rfl) (fun _ _ _ h => h) rfl (wt0 rfl) (x_indexAddr ts_25 rfl rfl rfl (by omega) ke26) rfl rfl fun a_70 HE71 => ?_
      refine dr_one (i := 9) (ls' := #[true, true, true, true, true, true, true, true, true, true, false]) rfl (by kernel_rfl) rfl fun K_72 hK73 => ?_
      refine st_storeI 0 HE71 HH52 tv_2 rfl rfl rfl (by first | exact ke26 | (simp only [List.length_set]; exact ke26) | omega | (simp only [List.length_set]; omega) | (simp; omega)) (by exact ⟨by omega, by omega⟩) (wt0 rfl) fun w' HH74 => hK73 _ _ (by exact HH74.sel [] (by decide) rfl) ?_
      have HS75 := HH74.sel [] (by decide) rfl
      refine dr_take (i := 10) (ls' := #[true, true, true, true, true, true, true, true, true, true, true]) HE71 HS75 rfl (by kernel_rfl) (by kernel_rfl) (by kernel_rfl) (fun _ _ _ h => h) rfl (wt0 rfl) (x_assign rfl) rfl rfl fun a_76 HE77 => ?_
      refine dr_done (by kernel_rfl) ?_
      clear HH31 a_50 HE51 a_54 HE55 a_56 HE57 a_58 HE59 a_60 HE61 a_62 HE63 a_64 HE65 a_66 HE67 a_68 HE69 HH52 HS53 a_70 HE71 hK73 K_72
      refine blk_n ?_
      refine nrm ?_
      refine rg ?_
      refine pl_x HE77 HH74 (wt0 rfl) (x_move rfl) rfl rfl fun a_78 HE79 => ?_
      refine pl_x HE79 HH74 (wt0 rfl) (x_sub rfl rfl (by exact ⟨by omega, by omega⟩)) rfl rfl fun a_80 HE81 => ?_
      refine pl_x HE81 HH74 (wt0 rfl) (x_assign rfl) rfl rfl fun a_82 HE83 => ?_
      refine wpList_nil ?_
      clear a_76 HE77 a_78 HE79 a_80 HE81
      have E27 : List.replicate ((k - 1)) (0 : Int) ++ (divW a1 (a0.drop ((k - 1)))).1 = ((List.replicate k (0 : Int) ++ (divW a1 (a0.drop k)).1).set (k - 1) (((((divW a1 (a0.drop k)).2) * 1000000) + e25) / a1)) := by
        exact set_divW (by omega) (by omega) (by rw [← xe25])
      exact nrm ⟨0 + ((k - 1)), (by omega), (k - 1), rfl, HE83.sub ⟨(lkI rfl (by first | (rw [rest_divW (by omega) (by omega), ← xe25]; done) | (rw [rest_divW (by omega) (by omega), ← xe25]; rfl))), (lkI rfl (by omega)), rfl, rfl, rfl, trivial⟩, ((HH74.sel [0] (by decide) rfl).to (by first | rfl | (rw [E27]; done) | (rw [E27]; rfl) | (simp only [E27]; done) | (simp only [E27]; rfl) | (rw [E27]; simp only [List.length_set]; done))), (by first | omega | assumption | (simp; done) | simp_all)⟩
    · refine wp_exit ?_
      refine (thn_exit (thn_exit (blk_hit ?_)))
      refine nrm ?_
      refine wp_seq ?_
      refine rg ?_
      refine pl_x HE35 HH31 (wt0 rfl) (x_move rfl) rfl rfl fun a_84 HE85 => ?_
      refine pl fun K_86 hK87 => ?_
      have HE88 := HE85.castS (t := 35) (m' := List.length (List.replicate k (0 : Int) ++ (divW a1 (a0.drop k)).1)) rfl (by first | omega | (simp; done) | (simp; omega))
      refine st_call HE88 (wt0 rfl) rfl rfl rfl en_103 rfl rfl (impl_trimmed _ _ (List.replicate k (0 : Int) ++ (divW a1 (a0.drop k)).1) _ (HH31.sl (i := 0) rfl)) fun e w' hr => ?_
      obtain ⟨rfl, ⟨kt28, ht28⟩, rfl⟩ := hr
      have HH89 := HH31.turn (rSo eInt (fun b => b = q21) (some ⟨q21, 0, none⟩) a0.length (trimZ (List.replicate k (0 : Int) ++ (divW a1 (a0.drop k)).1))) (fun h => oSl (by rw [ht28]; exact (so_of_o h).take kt28)) (fun _ h => h)
      refine ⟨_, rfl, fun a_90 HE91 => hK87 _ _ ?_⟩
      refine pl_x HE91 HH89 (wt0 rfl) (x_move rfl) rfl rfl fun a_92 HE93 => ?_
      refine pl_x HE93 HH89 (wt0 rfl) (x_assign rfl) rfl rfl fun a_94 HE95 => ?_
      refine pl_x HE95 HH89 (wt0 rfl) (x_assign rfl) rfl rfl fun a_96 HE97 => ?_
      refine wpList_nil ?_
      clear a_34 HE35 HE85 HH31 a_84 HE88 a_90 HE91 a_92 HE93 a_94 HE95 hK87 K_86
      refine nrm ?_
      refine wp_ret ?_
      refine ret2 HE97 rfl (rv_tmp rfl) (rv_tmp rfl) ?_
      have hF : (divN a0 a1) = ((trimZ (List.replicate k (0 : Int) ++ (divW a1 (a0.drop k)).1)), (divW a1 (a0.drop k)).2) := by
        unfold divN; rw [show k = 0 from by omega]; simp
      exact ⟨(some ⟨q21, 0, none⟩), a0.length, by first | (rw [hF] <;> rfl) | rfl | (rw [hF]; simp only [Ending.returned.injEq, Value.slice.injEq, true_and, and_true]; first | omega | (simp; done)) | (rw [hF]; simp; omega), by rw [hF]; exact (HH89.so (i := 0) rfl), HH89.below⟩

set_option maxRecDepth 100000 in
set_option maxHeartbeats 4000000 in
theorem impl_multiply (A0 : Option Addr) (c0 : Nat) (a0 : (List Int)) (A1 : Option Addr) (c1 : Nat) (a1 : (List Int)) (w : World) (h0 : Sl eInt w (Old w) A0 c0 a0) (h1 : Sl eInt w (Old w) A1 c1 a1) (s0 : limbs a0) (s1 : limbs a1) (s2 : a0.length ≤ 1000000000) (s3 : a1.length ≤ 1000000000) :
    Calls Tryz.prog 43 #[.slice A0 a0.length c0, .slice A1 a1.length c1] w fun e w' => ∃ (A0' : Option Addr) (c0' : Nat), e = .returned (.slice A0' (mulN a0 a1).length c0') ∧ So eInt w' (Fr w w') A0' c0' (mulN a0 a1) ∧ Below w.heap.size w w' := by
  have l0 := h0.len
  have l1 := h1.len
  have HH1 := Held.start Nob w
  refine enter (n := 65) Tryz.func43 rfl rfl rfl fun a_2 HE3 => ?_
  refine wp_seq ?_
  refine rg ?_
  refine pl_x HE3 HH1 (wt0 rfl) (x_assign rfl) rfl rfl fun a_4 HE5 => ?_
  refine wpList_nil ?_
  clear a_2 HE3
  refine nrm ?_
  refine wp_seq ?_
  refine rg ?_
  refine pl_x HE5 HH1 (wt0 rfl) (x_move rfl) rfl rfl fun a_6 HE7 => ?_
  refine pl_x HE7 HH1 (wt0 rfl) (x_len Tryz.underlying25 rfl) rfl rfl fun a_8 HE9 => ?_
  refine pl_x HE9 HH1 (wt0 rfl) (x_move rfl) rfl rfl fun a_10 HE11 => ?_
  refine pl_x HE11 HH1 (wt0 rfl) (x_len Tryz.underlying25 rfl) rfl rfl fun a_12 HE13 => ?_
  refine pl_x HE13 HH1 (wt0 rfl) (x_add rfl rfl (by exact ⟨by omega, by omega⟩)) rfl rfl fun a_14 HE15 => ?_
  refine pl fun K_16 hK17 => ?_
  refine st_make (E := eInt) (x := (0 : Int)) (k := (a0.length + a1.length)) HE15 HH1 ts_25 tv_2 rfl (fun _ => oI ⟨by omega, by omega⟩) rfl rfl (by omega) (by omega) (by omega) (by omega) (wt0 rfl) rfl fun q21 a_18 w' HE19 HH20 => hK17 _ _ ?_
  have hlq21 : (List.replicate (a0.length + a1.length) (0 : Int)).length = (a0.length + a1.length) := List.length_replicate
  refine pl_x HE19 HH20 (wt0 rfl) (x_assign rfl) rfl rfl fun a_21 HE22 => ?_
  refine wpList_nil ?_
  clear a_4 HE5 a_6 HE7 a_8 HE9 a_10 HE11 a_12 HE13 a_14 HE15 HH1 a_18 HE19 hK17 K_16
  refine nrm ?_
  refine wp_seq ?_
  refine wp_seq ?_
  refine rg ?_
  refine pl_x HE22 HH20 (wt0 rfl) (x_move rfl) rfl rfl fun a_23 HE24 => ?_
  refine pl_x HE24 HH20 (wt0 rfl) (x_len Tryz.underlying25 rfl) rfl rfl fun a_25 HE26 => ?_
  refine pl_x HE26 HH20 (wt0 rfl) (x_move rfl) rfl rfl fun a_27 HE28 => ?_
  refine wpList_nil ?_
  clear a_21 HE22 a_23 HE24 a_25 HE26
  refine nrm ?_
  refine wp_block ?_
  refine lp (fun m a w' => ∃ (i : Nat) (o : List Int), m = a0.length - i ∧ Env 65 [(18, .int .i64 (i : Int)), (1, .slice A1 (a1.length) c1), (5, .slice (some ⟨q21, 0, none⟩) ((List.replicate (a0.length + a1.length) (0 : Int)).length) (a0.length + a1.length)), (16, .slice A0 (a0.length) c0), (17, .int .i64 ((a0.length : Int)))] a ∧ Held Nob w [rSo eInt (fun b => b = q21) (some ⟨q21, 0, none⟩) (a0.length + a1.length) o] w' ∧ (i ≤ a0.length) ∧ (o.length = a0.length + a1.length) ∧ (limbs o) ∧ (val o = val (a0.take i) * val a1)) (a0.length - (0)) ?_ ?_
  · have E22 : (List.replicate (a0.length + a1.length) 0) = (List.replicate (a0.length + a1.length) (0 : Int)) := by
      first | rfl | simp
    exact ⟨0, List.replicate (a0.length + a1.length) 0, rfl, HE28.sub ⟨(lkI rfl (by first | rfl | omega | (simp []; done))), rfl, rfl, rfl, rfl, trivial⟩, ((HH20.sel [0] (by decide) rfl).to (by first | rfl | (rw [E22]; done) | (rw [E22]; rfl) | (simp only [E22]; done) | (simp only [E22]; rfl) | (rw [E22]; simp only [List.length_set]; done))), (by first | omega | assumption | (simp; done) | simp_all), (by simp), (by exact limbs_rep _), (by rw [val_rep]; simp [val])⟩
  · rintro m a_29 w' ⟨i, o, rfl, HE30, HH31, p23_0, p23_1, p23_2, p23_3⟩
    refine wp_seq ?_
    refine rg ?_
    refine pl_x HE30 HH31 (wt0 rfl) (x_lss rfl rfl) rfl rfl fun a_32 HE33 => ?_
    refine wpList_nil ?_
    clear a_27 HE28 HH20 a_29 HE30
    refine nrm ?_
    refine wp_seq ?_
    refine cnd_d HE33 rfl (fun hc24 => ?_) (fun hc24 => ?_)
    · refine wp_skip ?_
      refine nrm ?_
      refine wp_seq ?_
      refine wp_block ?_
      refine wp_seq ?_
      refine rg ?_
      refine pl_x HE33 HH31 (wt0 rfl) (x_move rfl) rfl rfl fun a_34 HE35 => ?_
      have ke25 : i < a0.length := by omega
      obtain ⟨be25, fe25, ese25, Ae25, Re25, De25⟩ := el_old h0 ke25
      obtain ⟨e25, xe25⟩ : ∃ x_, x_ = a0[i] := ⟨_, rfl⟩
      rw [← xe25] at Re25
      have Qe25 := Re25
      obtain ⟨rfl, ie25⟩ := Re25
      have je25 := ie25; unfold I64 at je25
      have be25 := s0 e25 (by rw [xe25]; exact List.getElem_mem _)
      have hx0 : a0[i]?.getD 0 = e25 := by rw [List.getElem?_eq_getElem ke25, xe25]; rfl
      have hm0 : ∀ y, 0 ≤ y ∧ y ≤ 999999 → 0 ≤ e25 * y ∧ e25 * y ≤ 999998000001 := fun y hy => mul_b6 be25 hy
      refine pl_x HE35 HH31 (wt0 rfl) (x_indexAddr ts_25 rfl rfl Ae25 rfl ke25) rfl rfl fun a_36 HE37 => ?_
      refine pl_x HE37 HH31 (wt0 rfl) (x_load1 tv_2 rfl (c_old (De25 0 _ rfl))) rfl rfl fun a_38 HE39 => ?_
      refine pl_x HE39 HH31 (wt0 rfl) (x_assign rfl) rfl rfl fun a_40 HE41 => ?_
      refine pl_x HE41 HH31 (wt0 rfl) (x_assign rfl) rfl rfl fun a_42 HE43 => ?_
      refine wpList_nil ?_
      clear a_32 HE33 a_34 HE35 a_36 HE37 a_38 HE39 a_40 HE41
      refine nrm ?_
      refine wp_seq ?_
      refine rg ?_
      refine pl_x HE43 HH31 (wt0 rfl) (x_assign rfl) rfl rfl fun a_44 HE45 => ?_
      refine wpList_nil ?_
      clear a_42 HE43
      refine nrm ?_
      refine wp_seq ?_
      refine rg ?_
      refine pl_x HE45 HH31 (wt0 rfl) (x_assign rfl) rfl rfl fun a_46 HE47 => ?_
      refine wpList_nil ?_
      clear a_44 HE45
      refine nrm ?_
      refine wp_block ?_
      refine lp (fun m a w' => ∃ (k : Nat) (u : List Int) (c : Int), m = (a0.length + a1.length) - (i + k) ∧ Env 65 [(8, .int .i64 c), (9, .int .i64 (k : Int)), (1, .slice A1 (a1.length) c1), (5, .slice (some ⟨q21, 0, none⟩) ((List.replicate (a0.length + a1.length) (0 : Int)).length) (a0.length + a1.length)), (6, .int .i64 ((i : Int))), (7, .int .i64 (e25)), (16, .slice A0 (a0.length) c0), (17, .int .i64 ((a0.length : Int))), (18, .int .i64 ((i : Int)))] a ∧ Held Nob w [rSo eInt (fun b => b = q21) (some ⟨q21, 0, none⟩) (a0.length + a1.length) u] w' ∧ (u.length = a0.length + a1.length) ∧ (limbs u) ∧ (0 ≤ c ∧ c ≤ 999999) ∧ (val u + c * 1000000 ^ (i + k) = val (a0.take i) * val a1 + a0[i]?.getD 0 * val (a1.take k) * 1000000 ^ i) ∧ (i + k ≤ a0.length + a1.length)) ((a0.length + a1.length) - (i + (0))) ?_ ?_
      · exact ⟨0, o, 0, rfl, HE47.sub ⟨rfl, (lkI rfl (by first | rfl | omega | (simp [p23_0, p23_1, p23_2, p23_3, hc24, xe25]; done))), rfl, rfl, rfl, rfl, rfl, rfl, rfl, trivial⟩, (HH31.sel [0] (by decide) rfl), (by exact p23_1), (by exact p23_2), (by first | omega | assumption | (simp; done) | simp_all), (by rw [p23_3]; simp [val]), (by first | omega | assumption | (simp; done) | simp_all)⟩
      · rintro m a_48 w' ⟨k, u, c, rfl, HE49, HH50, p26_0, p26_1, p26_2, p26_3, p26_4⟩
        refine wp_seq ?_
        refine wp_seq ?_
        refine rg ?_
        refine pl_x HE49 HH50 (wt0 rfl) (x_move rfl) rfl rfl fun a_51 HE52 => ?_
        refine pl_x HE52 HH50 (wt0 rfl) (x_move rfl) rfl rfl fun a_53 HE54 => ?_
        refine pl_x HE54 HH50 (wt0 rfl) (x_len Tryz.underlying25 rfl) rfl rfl fun a_55 HE56 => ?_
        refine pl_x HE56 HH50 (wt0 rfl) (x_lss rfl rfl) rfl rfl fun a_57 HE58 => ?_
        refine pl_x HE58 HH50 (wt0 rfl) (x_move rfl) rfl rfl fun a_59 HE60 => ?_
        by_cases hc27 : (k : Int) < (a1.length : Int)
        · refine pl_no HE60 (wtF HE60 rfl rfl rfl (decide_eq_true hc27)) rfl rfl fun a_61 HE62 => ?_
          refine pl_no HE62 (wtF HE62 rfl rfl rfl (decide_eq_true hc27)) rfl rfl fun a_63 HE64 => ?_
          refine pl_x HE64 HH50 (wt0 rfl) (x_pickT rfl (decide_eq_true hc27) rfl) rfl rfl fun a_65 HE66 => ?_
          refine wpList_nil ?_
          clear a_46 HE47 HH31 a_48 HE49 a_51 HE52 a_53 HE54 a_55 HE56 a_57 HE58 a_59 HE60 a_61 HE62 a_63 HE64
          refine nrm ?_
          refine cndT HE66 rfl rfl ?_
          refine wp_skip ?_
          refine nrm ?_
          refine wp_seq ?_
          refine wp_block ?_
          refine wp_seq ?_
          refine rg ?_
          refine pl_x HE66 HH50 (wt0 rfl) (x_move rfl) rfl rfl fun a_67 HE68 => ?_
          refine pl_x HE68 HH50 (wt0 rfl) (x_move rfl) rfl rfl fun a_69 HE70 => ?_
          refine pl_x HE70 HH50 (wt0 rfl) (x_move rfl) rfl rfl fun a_71 HE72 => ?_
          refine pl_x HE72 HH50 (wt0 rfl) (x_move rfl) rfl rfl fun a_73 HE74 => ?_
          refine pl_x HE74 HH50 (wt0 rfl) (x_add rfl rfl (by exact ⟨by omega, by omega⟩)) rfl rfl fun a_75 HE76 => ?_
          have ke28 : (i + k) < (List.replicate (a0.length + a1.length) (0 : Int)).length := by omega
          refine pl_x HE76 HH50 (wt0 rfl) (x_indexAddr ts_25 rfl rfl rfl (by omega) ke28) rfl rfl fun a_77 HE78 => ?_
          obtain ⟨y29, xy29⟩ : ∃ y_, y_ = u[(i + k)]'(by first | exact ke28 | (simp only [List.length_set]; exact ke28) | omega | (simp only [List.length_set]; omega) | (simp; omega)) := ⟨_, rfl⟩
          have iy29 : I64 y29 := by rw [xy29]; exact i_ownI HH50 0 rfl _
          have jy29 := iy29; unfold I64 at jy29
          have by29 := p26_1 y29 (by rw [xy29]; exact List.getElem_mem _)
          refine pl_x HE78 HH50 (wt0 rfl) (x_load1 tv_2 rfl (c_ownV 0 rfl (by first | exact ke28 | (simp only [List.length_set]; exact ke28) | omega | (simp only [List.length_set]; omega) | (simp; omega)) xy29.symm)) rfl rfl fun a_79 HE80 => ?_
          refine pl_x HE80 HH50 (wt0 rfl) (x_add rfl rfl (by exact ⟨by omega, by omega⟩)) rfl rfl fun a_81 HE82 => ?_
          refine pl_x HE82 HH50 (wt0 rfl) (x_assign rfl) rfl rfl fun a_83 HE84 => ?_
          refine wpList_nil ?_
          clear a_65 HE66 a_67 HE68 a_69 HE70 a_71 HE72 a_73 HE74 a_75 HE76 a_77 HE78 a_79 HE80 a_81 HE82
          refine nrm ?_
          refine wp_seq ?_
          refine wp_seq ?_
          refine rg ?_
          refine pl_x HE84 HH50 (wt0 rfl) (x_move rfl) rfl rfl fun a_85 HE86 => ?_
          refine pl_x HE86 HH50 (wt0 rfl) (x_move rfl) rfl rfl fun a_87 HE88 => ?_
          refine pl_x HE88 HH50 (wt0 rfl) (x_len Tryz.underlying25 rfl) rfl rfl fun a_89 HE90 => ?_
          refine pl_x HE90 HH50 (wt0 rfl) (x_lss rfl rfl) rfl rfl fun a_91 HE92 => ?_
          refine wpList_nil ?_
          clear a_83 HE84 a_85 HE86 a_87 HE88 a_89 HE90
          refine nrm ?_
          refine cndT HE92 rfl (decide_eq_true hc27) ?_
          refine rg ?_
          refine pl_x HE92 HH50 (wt0 rfl) (x_move rfl) rfl rfl fun a_93 HE94 => ?_
          refine pl_x HE94 HH50 (wt0 rfl) (x_move rfl) rfl rfl fun a_95 HE96 => ?_
          refine pl_x HE96 HH50 (wt0 rfl) (x_move rfl) rfl rfl fun a_97 HE98 => ?_
          refine pl_x HE98 HH50 (wt0 rfl) (x_move rfl) rfl rfl fun a_99 HE100 => ?_
          have ke30 : k < a1.length := by omega
          obtain ⟨be30, fe30, ese30, Ae30, Re30, De30⟩ := el_old h1 ke30
          obtain ⟨e30, xe30⟩ : ∃ x_, x_ = a1[k] := ⟨_, rfl⟩
          rw [← xe30] at Re30
          have Qe30 := Re30
          obtain ⟨rfl, ie30⟩ := Re30
          have je30 := ie30; unfold I64 at je30
          have be30 := s1 e30 (by rw [xe30]; exact List.getElem_mem _)
          have me30 := hm0 e30 be30
          refine pl_x HE100 HH50 (wt0 rfl) (x_indexAddr ts_25 rfl rfl Ae30 rfl ke30) rfl rfl fun a_101 HE102 => ?_
          refine pl_x HE102 HH50 (wt0 rfl) (x_load1 tv_2 rfl (c_old (De30 0 _ rfl))) rfl rfl fun a_103 HE104 => ?_
          refine pl_x HE104 HH50 (wt0 rfl) (x_mul rfl rfl (by exact ⟨by omega, by omega⟩)) rfl rfl fun a_105 HE106 => ?_
          refine pl_x HE106 HH50 (wt0 rfl) (x_add rfl rfl (by exact ⟨by omega, by omega⟩)) rfl rfl fun a_107 HE108 => ?_
          refine pl_x HE108 HH50 (wt0 rfl) (x_assign rfl) rfl rfl fun a_109 HE110 => ?_
          refine wpList_nil ?_
          clear a_91 HE92 a_93 HE94 a_95 HE96 a_97 HE98 a_99 HE100 a_101 HE102 a_103 HE104 a_105 HE106 a_107 HE108
          refine nrm ?_
          refine wp_seq ?_
          refine rg ?_
          refine pl_x HE110 HH50 (wt0 rfl) (x_move rfl) rfl rfl fun a_111 HE112 => ?_
          refine pl_x HE112 HH50 (wt0 rfl) (x_move rfl) rfl rfl fun a_113 HE114 => ?_
          refine pl_x HE114 HH50 (wt0 rfl) (x_move rfl) rfl rfl fun a_115 HE116 => ?_
          refine pl_x HE116 HH50 (wt0 rfl) (x_add rfl rfl (by exact ⟨by omega, by omega⟩)) rfl rfl fun a_117 HE118 => ?_
          refine pl_x HE118 HH50 (wt0 rfl) (x_move rfl) rfl rfl fun a_119 HE120 => ?_
          refine pl_x HE120 HH50 (wt0 rfl) (x_rem rfl rfl (by omega) (by omega)) rfl rfl fun a_121 HE122 => ?_
          have ke31 : (i + k) < (List.replicate (a0.length + a1.length) (0 : Int)).length := by omega
          refine pl_x HE122 HH50 (wt0 rfl) (x_indexAddr ts_25 rfl rfl rfl (by omega) ke31) rfl rfl fun a_123 HE124 => ?_
          refine pl fun K_125 hK126 => ?_
          refine st_storeI 0 HE124 HH50 tv_2 rfl rfl rfl (by first | exact ke31 | (simp only [List.length_set]; exact ke31) | omega | (simp only [List.length_set]; omega) | (simp; omega)) (by exact ⟨by omega, by omega⟩) (wt0 rfl) fun w' HH127 => hK126 _ _ ?_
          refine wpList_nil ?_
          clear a_109 HE110 a_111 HE112 a_113 HE114 a_115 HE116 a_117 HE118 a_119 HE120 a_121 HE122 HH50 hK126 K_125
          refine nrm ?_
          refine rg ?_
          refine pl_x HE124 HH127 (wt0 rfl) (x_move rfl) rfl rfl fun a_128 HE129 => ?_
          refine pl_x HE129 HH127 (wt0 rfl) (x_quo rfl rfl (by omega) (by omega) (by omega)) rfl rfl fun a_130 HE131 => ?_
          refine pl_x HE131 HH127 (wt0 rfl) (x_assign rfl) rfl rfl fun a_132 HE133 => ?_
          refine wpList_nil ?_
          clear a_123 HE124 a_128 HE129 a_130 HE131
          refine blk_n ?_
          refine nrm ?_
          refine rg ?_
          refine pl_x HE133 HH127 (wt0 rfl) (x_move rfl) rfl rfl fun a_134 HE135 => ?_
          refine pl_x HE135 HH127 (wt0 rfl) (x_add rfl rfl (by exact ⟨by omega, by omega⟩)) rfl rfl fun a_136 HE137 => ?_
          refine pl_x HE137 HH127 (wt0 rfl) (x_assign rfl) rfl rfl fun a_138 HE139 => ?_
          refine wpList_nil ?_
          clear a_132 HE133 a_134 HE135 a_136 HE137
          have E32 : ((u.set (i + k) (((c + y29) + (e25 * e30)) % 1000000))) = (u.set (i + k) (((c + y29) + (e25 * e30)) % 1000000)) := by
            first | rfl | simp
          exact nrm ⟨(a0.length + a1.length) - (i + (k + 1)), (by omega), k + 1, (u.set (i + k) (((c + y29) + (e25 * e30)) % 1000000)), (((c + y29) + (e25 * e30)) / 1000000), rfl, HE139.sub ⟨rfl, (lkI rfl (by first | rfl | omega | (simp [p23_0, p23_1, p23_2, p23_3, hc24, xe25, p26_0, p26_1, p26_2, p26_3, p26_4, hc27, xy29, xe30]; done))), rfl, rfl, rfl, rfl, rfl, rfl, rfl, trivial⟩, ((HH127.sel [0] (by decide) rfl).to (by first | rfl | (rw [E32]; done) | (rw [E32]; rfl) | (simp only [E32]; done) | (simp only [E32]; rfl) | (rw [E32]; simp only [List.length_set]; done))), (by rw [List.length_set]; exact p26_0), (by exact limbs_set p26_1 (by omega)), (by omega), (by first | exact mul_round1 (by omega) (by omega) p26_3 (by rw [hx0, ← xe30, ← xy29]; omega) | exact mul_round0 (by omega) (by omega) p26_3 (by rw [← xy29]; omega)), (by omega)⟩
        · refine pl_x HE60 HH50 (wtT HE60 rfl rfl rfl (decide_eq_false hc27)) (x_move rfl) rfl rfl fun a_140 HE141 => ?_
          refine pl_x HE141 HH50 (wtT HE141 rfl rfl rfl (decide_eq_false hc27)) (x_gtr rfl rfl) rfl rfl fun a_142 HE143 => ?_
          refine pl_x HE143 HH50 (wt0 rfl) (x_pickF rfl (decide_eq_false hc27) rfl) rfl rfl fun a_144 HE145 => ?_
          refine wpList_nil ?_
          clear a_46 HE47 HH31 a_48 HE49 a_51 HE52 a_53 HE54 a_55 HE56 a_57 HE58 a_59 HE60 a_140 HE141 a_142 HE143
          refine nrm ?_
          refine cnd_d HE145 rfl (fun hc33 => ?_) (fun hc33 => ?_)
          · have hroom := mul_room (N := a0.length + a1.length) s0 s1 p26_1 (by omega) p26_3 (by omega) hc33 (by omega)
            refine wp_skip ?_
            refine nrm ?_
            refine wp_seq ?_
            refine wp_block ?_
            refine wp_seq ?_
            refine rg ?_
            refine pl_x HE145 HH50 (wt0 rfl) (x_move rfl) rfl rfl fun a_146 HE147 => ?_
            refine pl_x HE147 HH50 (wt0 rfl) (x_move rfl) rfl rfl fun a_148 HE149 => ?_
            refine pl_x HE149 HH50 (wt0 rfl) (x_move rfl) rfl rfl fun a_150 HE151 => ?_
            refine pl_x HE151 HH50 (wt0 rfl) (x_move rfl) rfl rfl fun a_152 HE153 => ?_
            refine pl_x HE153 HH50 (wt0 rfl) (x_add rfl rfl (by exact ⟨by omega, by omega⟩)) rfl rfl fun a_154 HE155 => ?_
            have ke34 : (i + k) < (List.replicate (a0.length + a1.length) (0 : Int)).length := by omega
            refine pl_x HE155 HH50 (wt0 rfl) (x_indexAddr ts_25 rfl rfl rfl (by omega) ke34) rfl rfl fun a_156 HE157 => ?_
            obtain ⟨y35, xy35⟩ : ∃ y_, y_ = u[(i + k)]'(by first | exact ke34 | (simp only [List.length_set]; exact ke34) | omega | (simp only [List.length_set]; omega) | (simp; omega)) := ⟨_, rfl⟩
            have iy35 : I64 y35 := by rw [xy35]; exact i_ownI HH50 0 rfl _
            have jy35 := iy35; unfold I64 at jy35
            have by35 := p26_1 y35 (by rw [xy35]; exact List.getElem_mem _)
            refine pl_x HE157 HH50 (wt0 rfl) (x_load1 tv_2 rfl (c_ownV 0 rfl (by first | exact ke34 | (simp only [List.length_set]; exact ke34) | omega | (simp only [List.length_set]; omega) | (simp; omega)) xy35.symm)) rfl rfl fun a_158 HE159 => ?_
            refine pl_x HE159 HH50 (wt0 rfl) (x_add rfl rfl (by exact ⟨by omega, by omega⟩)) rfl rfl fun a_160 HE161 => ?_
            refine pl_x HE161 HH50 (wt0 rfl) (x_assign rfl) rfl rfl fun a_162 HE163 => ?_
            refine wpList_nil ?_
            clear a_144 HE145 a_146 HE147 a_148 HE149 a_150 HE151 a_152 HE153 a_154 HE155 a_156 HE157 a_158 HE159 a_160 HE161
            refine nrm ?_
            refine wp_seq ?_
            refine wp_seq ?_
            refine rg ?_
            refine pl_x HE163 HH50 (wt0 rfl) (x_move rfl) rfl rfl fun a_164 HE165 => ?_
            refine pl_x HE165 HH50 (wt0 rfl) (x_move rfl) rfl rfl fun a_166 HE167 => ?_
            refine pl_x HE167 HH50 (wt0 rfl) (x_len Tryz.underlying25 rfl) rfl rfl fun a_168 HE169 => ?_
            refine pl_x HE169 HH50 (wt0 rfl) (x_lss rfl rfl) rfl rfl fun a_170 HE171 => ?_
            refine wpList_nil ?_
            clear a_162 HE163 a_164 HE165 a_166 HE167 a_168 HE169
            refine nrm ?_
            refine cndF HE171 rfl (decide_eq_false hc27) ?_
            refine wp_skip ?_
            refine nrm ?_
            refine wp_seq ?_
            refine rg ?_
            refine pl_x HE171 HH50 (wt0 rfl) (x_move rfl) rfl rfl fun a_172 HE173 => ?_
            refine pl_x HE173 HH50 (wt0 rfl) (x_move rfl) rfl rfl fun a_174 HE175 => ?_
            refine pl_x HE175 HH50 (wt0 rfl) (x_move rfl) rfl rfl fun a_176 HE177 => ?_
            refine pl_x HE177 HH50 (wt0 rfl) (x_add rfl rfl (by exact ⟨by omega, by omega⟩)) rfl rfl fun a_178 HE179 => ?_
            refine pl_x HE179 HH50 (wt0 rfl) (x_move rfl) rfl rfl fun a_180 HE181 => ?_
            refine pl_x HE181 HH50 (wt0 rfl) (x_rem rfl rfl (by omega) (by omega)) rfl rfl fun a_182 HE183 => ?_
            have ke36 : (i + k) < (List.replicate (a0.length + a1.length) (0 : Int)).length := by omega
            refine pl_x HE183 HH50 (wt0 rfl) (x_indexAddr ts_25 rfl rfl rfl (by omega) ke36) rfl rfl fun a_184 HE185 => ?_
            refine pl fun K_186 hK187 => ?_
            refine st_storeI 0 HE185 HH50 tv_2 rfl rfl rfl (by first | exact ke36 | (simp only [List.length_set]; exact ke36) | omega | (simp only [List.length_set]; omega) | (simp; omega)) (by exact ⟨by omega, by omega⟩) (wt0 rfl) fun w' HH188 => hK187 _ _ ?_
            refine wpList_nil ?_
            clear a_170 HE171 a_172 HE173 a_174 HE175 a_176 HE177 a_178 HE179 a_180 HE181 a_182 HE183 HH50 hK187 K_186
            refine nrm ?_
            refine rg ?_
            refine pl_x HE185 HH188 (wt0 rfl) (x_move rfl) rfl rfl fun a_189 HE190 => ?_
            refine pl_x HE190 HH188 (wt0 rfl) (x_quo rfl rfl (by omega) (by omega) (by omega)) rfl rfl fun a_191 HE192 => ?_
            refine pl_x HE192 HH188 (wt0 rfl) (x_assign rfl) rfl rfl fun a_193 HE194 => ?_
            refine wpList_nil ?_
            clear a_184 HE185 a_189 HE190 a_191 HE192
            refine blk_n ?_
            refine nrm ?_
            refine rg ?_
            refine pl_x HE194 HH188 (wt0 rfl) (x_move rfl) rfl rfl fun a_195 HE196 => ?_
            refine pl_x HE196 HH188 (wt0 rfl) (x_add rfl rfl (by exact ⟨by omega, by omega⟩)) rfl rfl fun a_197 HE198 => ?_
            refine pl_x HE198 HH188 (wt0 rfl) (x_assign rfl) rfl rfl fun a_199 HE200 => ?_
            refine wpList_nil ?_
            clear a_193 HE194 a_195 HE196 a_197 HE198
            have E37 : ((u.set (i + k) ((c + y35) % 1000000))) = (u.set (i + k) ((c + y35) % 1000000)) := by
              first | rfl | simp
            exact nrm ⟨(a0.length + a1.length) - (i + (k + 1)), (by omega), k + 1, (u.set (i + k) ((c + y35) % 1000000)), ((c + y35) / 1000000), rfl, HE200.sub ⟨rfl, (lkI rfl (by first | rfl | omega | (simp [p23_0, p23_1, p23_2, p23_3, hc24, xe25, p26_0, p26_1, p26_2, p26_3, p26_4, hc27, hc33, xy35]; done))), rfl, rfl, rfl, rfl, rfl, rfl, rfl, trivial⟩, ((HH188.sel [0] (by decide) rfl).to (by first | rfl | (rw [E37]; done) | (rw [E37]; rfl) | (simp only [E37]; done) | (simp only [E37]; rfl) | (rw [E37]; simp only [List.length_set]; done))), (by rw [List.length_set]; exact p26_0), (by exact limbs_set p26_1 (by omega)), (by omega), (by first | exact mul_round1 (by omega) (by omega) p26_3 (by rw [hx0, ← xe25, ← xy35]; omega) | exact mul_round0 (by omega) (by omega) p26_3 (by rw [← xy35]; omega)), (by omega)⟩
          · refine wp_exit ?_
            refine (thn_exit (thn_exit (blk_hit ?_)))
            refine blk_n ?_
            refine nrm ?_
            refine rg ?_
            refine pl_x HE145 HH50 (wt0 rfl) (x_add rfl rfl (by exact ⟨by omega, by omega⟩)) rfl rfl fun a_201 HE202 => ?_
            refine pl_x HE202 HH50 (wt0 rfl) (x_move rfl) rfl rfl fun a_203 HE204 => ?_
            refine wpList_nil ?_
            clear a_144 HE145 a_201 HE202
            exact nrm ⟨a0.length - (i + 1), (by omega), i + 1, u, rfl, HE204.sub ⟨(lkI rfl (by first | rfl | omega | (simp [p23_0, p23_1, p23_2, p23_3, hc24, xe25, p26_0, p26_1, p26_2, p26_3, p26_4, hc27, hc33]; done))), rfl, rfl, rfl, rfl, trivial⟩, (HH50.sel [0] (by decide) rfl), (by first | omega | assumption | (simp; done) | simp_all), (by exact p26_0), (by exact p26_1), (by exact mul_end (by omega) p26_3 (by omega) (by omega))⟩
    · refine wp_exit ?_
      refine (thn_exit (thn_exit (blk_hit ?_)))
      refine nrm ?_
      refine wp_seq ?_
      refine rg ?_
      refine pl_x HE33 HH31 (wt0 rfl) (x_move rfl) rfl rfl fun a_205 HE206 => ?_
      refine pl fun K_207 hK208 => ?_
      have HE209 := HE206.castS (t := 63) (m' := List.length o) rfl (by first | omega | (simp; done) | (simp; omega))
      refine st_call HE209 (wt0 rfl) rfl rfl rfl en_103 rfl rfl (impl_trimmed _ _ o _ (HH31.sl (i := 0) rfl)) fun e w' hr => ?_
      obtain ⟨rfl, ⟨kt38, ht38⟩, rfl⟩ := hr
      have HH210 := HH31.turn (rSo eInt (fun b => b = q21) (some ⟨q21, 0, none⟩) (a0.length + a1.length) (trimZ o)) (fun h => oSl (by rw [ht38]; exact (so_of_o h).take kt38)) (fun _ h => h)
      refine ⟨_, rfl, fun a_211 HE212 => hK208 _ _ ?_⟩
      refine pl_x HE212 HH210 (wt0 rfl) (x_assign rfl) rfl rfl fun a_213 HE214 => ?_
      refine wpList_nil ?_
      clear a_32 HE33 HE206 HH31 a_205 HE209 a_211 HE212 hK208 K_207
      refine nrm ?_
      refine wp_ret ?_
      refine ret1 HE214 rfl (rv_tmp rfl) ?_
      have hF : (mulN a0 a1) = (trimZ o) := by
        exact mulN_of p23_2 (by have := p23_3; rwa [List.take_of_length_le (by omega)] at this)
      exact ⟨(some ⟨q21, 0, none⟩), (a0.length + a1.length), by first | (rw [hF] <;> rfl) | rfl | (rw [hF]; simp only [Ending.returned.injEq, Value.slice.injEq, true_and, and_true]; first | omega | (simp; done)) | (rw [hF]; simp; omega), by rw [hF]; exact (HH210.so (i := 0) rfl), HH210.below⟩

set_option maxRecDepth 100000 in
set_option maxHeartbeats 4000000 in
theorem impl_stepFractions (A0 : Option Addr) (c0 : Nat) (a0 : (List tFraction)) (A1 : Option Addr) (c1 : Nat) (a1 : (List Int)) (w : World) (h0 : Sl eFraction w (Old w) A0 c0 a0) (h1 : Sl eInt w (Old w) A1 c1 a1) (s0 : okFr a0) (s1 : limbs a1) (s2 : a1.length ≤ 40) (s3 : a0.length ≤ 100) :
    Calls Tryz.prog 110 #[.slice A0 a0.length c0, .slice A1 a1.length c1] w fun e w' => ∃ (A0' : Option Addr) (c0' : Nat) (S0' : Nat → Prop), e = .returned (.tuple #[.slice A0' (stepFI a0 a1).1.length c0', .int .i64 (stepFI a0 a1).2]) ∧ Held Nob w [rIf (0 ≤ (stepFI a0 a1).2) (rSo eInt S0' A0' c0' (stepFI a0 a1).1)] w' := by
  have l0 := h0.len
  have l1 := h1.len
  have HH1 := Held.start Nob w
  refine enter (n := 34) Tryz.func110 rfl rfl rfl fun a_2 HE3 => ?_
  refine wp_seq ?_
  refine rg ?_
  refine pl_x HE3 HH1 (wt0 rfl) (x_assign rfl) rfl rfl fun a_4 HE5 => ?_
  refine pl_x HE5 HH1 (wt0 rfl) (x_assign rfl) rfl rfl fun a_6 HE7 => ?_
  refine wpList_nil ?_
  clear a_2 HE3 a_4 HE5
  refine nrm ?_
  refine wp_seq ?_
  refine wp_seq ?_
  refine rg ?_
  refine pl_x HE7 HH1 (wt0 rfl) (x_move rfl) rfl rfl fun a_8 HE9 => ?_
  refine pl_x HE9 HH1 (wt0 rfl) (x_len Tryz.underlying29 rfl) rfl rfl fun a_10 HE11 => ?_
  refine pl_x HE11 HH1 (wt0 rfl) (x_move rfl) rfl rfl fun a_12 HE13 => ?_
  refine wpList_nil ?_
  clear a_6 HE7 a_8 HE9 a_10 HE11
  refine nrm ?_
  refine wp_block ?_
  refine lp (fun m a w' => ∃ (k : Nat), m = a0.length - k ∧ Env 34 [(12, .int .i64 (k : Int)), (1, .slice A1 (a1.length) c1), (10, .slice A0 (a0.length) c0), (11, .int .i64 ((a0.length : Int)))] a ∧ Held Nob w [] w' ∧ (k ≤ a0.length) ∧ (stepFr a0 a1 0 = stepFr (a0.drop k) a1 k)) (a0.length - (0)) ?_ ?_
  · exact ⟨0, rfl, HE13.sub ⟨(lkI rfl (by first | rfl | omega | (simp []; done))), rfl, rfl, rfl, trivial⟩, (HH1.sel [] (by decide) rfl), (by first | omega | assumption | (simp; done) | simp_all), (by rfl)⟩
  · rintro m a_14 w' ⟨k, rfl, HE15, HH16, p21_0, p21_1⟩
    refine wp_seq ?_
    refine rg ?_
    refine pl_x HE15 HH16 (wt0 rfl) (x_lss rfl rfl) rfl rfl fun a_17 HE18 => ?_
    refine wpList_nil ?_
    clear a_12 HE13 HH1 a_14 HE15
    refine nrm ?_
    refine wp_seq ?_
    refine cnd_d HE18 rfl (fun hc22 => ?_) (fun hc22 => ?_)
    · refine wp_skip ?_
      refine nrm ?_
      refine wp_seq ?_
      refine wp_block ?_
      refine wp_seq ?_
      refine rg ?_
      refine pl_x HE18 HH16 (wt0 rfl) (x_move rfl) rfl rfl fun a_19 HE20 => ?_
      have ke23 : k < a0.length := by omega
      obtain ⟨be23, fe23, ese23, Ae23, Re23, De23⟩ := el_old h0 ke23
      obtain ⟨e23, xe23⟩ : ∃ x_, x_ = a0[k] := ⟨_, rfl⟩
      rw [← xe23] at Re23
      have Qe23 := Re23
      obtain ⟨rfl, ge23_0, ge23_1⟩ := shape_Fraction Re23
      have je23_0 := ge23_0; unfold I64 at je23_0
      have je23_1 := ge23_1; unfold I64 at je23_1
      have fe23 := s0 e23 (by rw [xe23]; exact List.getElem_mem _)
      refine pl_x HE20 HH16 (wt0 rfl) (x_indexAddr ts_29 rfl rfl Ae23 rfl ke23) rfl rfl fun a_21 HE22 => ?_
      refine pl_x HE22 HH16 (wt0 rfl) (x_loadN (cs := [.int .i64 (e23.1), .int .i64 (e23.2)]) tv_134 rfl rfl (c_oldN De23)) rfl rfl fun a_23 HE24 => ?_
      refine pl fun K_25 hK26 => ?_
      refine st_alloc HE24 HH16 tv_134 (wt0 rfl) rfl fun q24 a_27 w' HE28 HH29 => hK26 _ _ ?_
      refine pl_x HE28 HH29 (wt0 rfl) (x_assign rfl) rfl rfl fun a_30 HE31 => ?_
      refine pl fun K_32 hK33 => ?_
      refine st_store (vs := [.int .i64 (e23.1), .int .i64 (e23.2)]) 0 HE31 HH29 tv_134 rfl rfl rfl rfl rfl rfl (by simp [Value.oneCell']) (wt0 rfl) fun w' HH34 => hK33 _ _ ?_
      refine wpList_nil ?_
      clear a_17 HE18 a_19 HE20 a_21 HE22 a_23 HE24 HH16 a_27 HE28 K_25 hK26 HH29 hK33 K_32
      refine nrm ?_
      refine wp_seq ?_
      refine dr_start (Held Nob w [rBlk q24 134 [.int .i64 (e23.1), .int .i64 (e23.2)]]) 13 #[false, false, false, false, false, false, false, false, false, false, false, false, false] hmix rfl rfl HH34 (fun _ h => h.sel [0] (by decide) rfl) fun w' HH35 => ?_
      have HS36 := HH35
      refine dr_take (i := 0) (ls' := #[true, false, false, false, false, false, false, false, false, false, false, false, false]) HE31 HS36 rfl (by kernel_rfl) (by kernel_rfl) (by kernel_rfl) (fun _ _ _ h => h) rfl (wt0 rfl) (x_move rfl) rfl rfl fun a_37 HE38 => ?_
      refine dr_take (i := 1) (ls' := #[true, true, false, false, false, false, false, false, false, false, false, false, false]) HE38 HS36 rfl (by kernel_rfl) (by kernel_rfl) (by kernel_rfl) (fun _ _ _ h => h) rfl (wt0 rfl) (x_fieldAddr fa_134_0 rfl) rfl rfl fun a_39 HE40 => ?_
      refine dr_take (i := 2) (ls' := #[true, true, true, false, false, false, false, false, false, false, false, false, false]) HE40 HS36 rfl (by kernel_rfl) (by kernel_rfl) (by kernel_rfl) (fun _ _ _ h => h) rfl (wt0 rfl) (x_load1 tv_2 rfl (c_blk 0 rfl rfl)) rfl rfl fun a_41 HE42 => ?_
      refine dr_take (i := 5) (ls' := #[true, true, true, false, false, true, false, false, false, false, false, false, false]) HE42 HS36 rfl (by kernel_rfl) (by kernel_rfl) (by kernel_rfl) (fun _ _ _ h => h) rfl (wt0 rfl) (x_fieldAddr fa_134_1 rfl) rfl rfl fun a_43 HE44 => ?_
      refine dr_take (i := 6) (ls' := #[true, true, true, false, false, true, true, false, false, false, false, false, false]) HE44 HS36 rfl (by kernel_rfl) (by kernel_rfl) (by kernel_rfl) (fun _ _ _ h => h) rfl (wt0 rfl) (x_load1 tv_2 rfl (c_blk 0 rfl rfl)) rfl rfl fun a_45 HE46 => ?_
      refine dr_one (i := 3) (ls' := #[true, true, true, true, false, true, true, false, false, false, false, false, false]) rfl (by kernel_rfl) rfl fun K_47 hK48 => ?_
      refine st_lit (m := 1) (cs := [.int .i64 (e23.1)]) (e := 2) HE46 HH35 (run_lit ts_25 HE46 (vs := [.int .i64 (e23.1)]) rfl rfl (by simp [Value.cells]) rfl (by decide)) (wt0 rfl) rfl rfl fun q25 a_49 w' HE50 HH51 => hK48 _ _ (by exact HH51.sel [1] (by decide) rfl) ?_
      have HS52 := HH51.sel [1] (by decide) rfl
      refine dr_one (i := 4) (ls' := #[true, true, true, true, true, true, true, false, false, false, false, false, false]) rfl (by kernel_rfl) rfl fun K_53 hK54 => ?_
      have HH55 := Held.vecFlat (E := eInt) (xs := [e23.1]) (css := [[.int .i64 (e23.1)]]) HH51 rfl (by unfold maxLen; simp) (fun i x hx => by match i with | 0 => exact ⟨_, rfl, fun _ => by simp at hx; subst hx; exact (oI (by exact ⟨by omega, by omega⟩))⟩ | i + 1 => simp at hx)
      refine st_call HE50 (wt0 rfl) rfl rfl rfl en_43 rfl rfl (impl_multiply _ _ a1 _ _ ([e23.1] : List Int) _ (HH55.old h1) (HH55.vecSl (i := 0) rfl) (by assumption) (by first | assumption | (intro x hx; simp at hx; omega)) (by first | omega | simp) (by first | omega | simp)) fun e w' hr => ?_
      obtain ⟨Ar26_0, cr26_0, rfl, hor26_0, hbr26⟩ := hr
      obtain ⟨Sr26, HH56⟩ := HH55.newS hbr26 hor26_0
      refine ⟨_, rfl, fun a_57 HE58 => hK54 _ _ (by exact HH56.sel [2] (by decide) rfl) ?_⟩
      have HS59 := HH56.sel [2] (by decide) rfl
      refine dr_one (i := 7) (ls' := #[true, true, true, true, true, true, true, true, false, false, false, false, false]) rfl (by kernel_rfl) rfl fun K_60 hK61 => ?_
      refine st_call HE58 (wt0 rfl) rfl rfl rfl en_60 rfl rfl (impl_divideSmall _ _ (mulN a1 ([e23.1] : List Int)) e23.2 _ (HH56.sl (i := 0) rfl) (by first | assumption | exact mulN_limbs _ _) (by omega) (by first | omega | exact Nat.le_trans (mulN_len (by assumption) (by intro x hx; simp at hx; omega)) (by simp; omega))) fun e w' hr => ?_
      obtain ⟨Ar27_0, cr27_0, rfl, hor27_0, hbr27⟩ := hr
      obtain ⟨Sr27, HH62⟩ := HH56.newS hbr27 hor27_0
      refine ⟨_, rfl, fun a_63 HE64 => hK61 _ _ (by exact HH62.sel [3] (by decide) rfl) ?_⟩
      have HS65 := HH62.sel [3] (by decide) rfl
      refine dr_take (i := 8) (ls' := #[true, true, true, true, true, true, true, true, true, false, false, false, false]) HE64 HS65 rfl (by kernel_rfl) (by kernel_rfl) (by kernel_rfl) (fun _ _ _ h => h) rfl (wt0 rfl) (x_move rfl) rfl rfl fun a_66 HE67 => ?_
      refine dr_take (i := 9) (ls' := #[true, true, true, true, true, true, true, true, true, true, false, false, false]) HE67 HS65 rfl (by kernel_rfl) (by kernel_rfl) (by kernel_rfl) (fun _ _ _ h => h) rfl (wt0 rfl) (x_extract rfl rfl) rfl rfl fun a_68 HE69 => ?_
      refine dr_take (i := 10) (ls' := #[true, true, true, true, true, true, true, true, true, true, true, false, false]) HE69 HS65 rfl (by kernel_rfl) (by kernel_rfl) (by kernel_rfl) (fun _ _ _ h => h) rfl (wt0 rfl) (x_extract rfl rfl) rfl rfl fun a_70 HE71 => ?_
      refine dr_take (i := 11) (ls' := #[true, true, true, true, true, true, true, true, true, true, true, true, false]) HE71 HS65 rfl (by kernel_rfl) (by kernel_rfl) (by kernel_rfl) (fun _ _ _ h => h) rfl (wt0 rfl) (x_assign rfl) rfl rfl fun a_72 HE73 => ?_
      refine dr_take (i := 12) (ls' := #[true, true, true, true, true, true, true, true, true, true, true, true, true]) HE73 HS65 rfl (by kernel_rfl) (by kernel_rfl) (by kernel_rfl) (fun _ _ _ h => h) rfl (wt0 rfl) (x_assign rfl) rfl rfl fun a_74 HE75 => ?_
      refine dr_done (by kernel_rfl) ?_
      clear HH34 a_30 HE31 a_37 HE38 a_39 HE40 a_41 HE42 a_43 HE44 a_45 HE46 HH35 HS36 K_47 hK48 HH51 HH55 a_49 HE50 HS52 K_53 hK54 HH56 a_57 HE58 HS59 a_63 HE64 a_66 HE67 a_68 HE69 a_70 HE71 a_72 HE73 hK61 K_60
      refine nrm ?_
      refine wp_seq ?_
      refine rg ?_
      refine pl_x HE75 HH62 (wt0 rfl) (x_move rfl) rfl rfl fun a_76 HE77 => ?_
      refine pl_x HE77 HH62 (wt0 rfl) (x_eql rfl rfl) rfl rfl fun a_78 HE79 => ?_
      refine wpList_nil ?_
      clear a_74 HE75 a_76 HE77
      refine nrm ?_
      refine cnd_e HE79 rfl (fun hc28 => ?_) (fun hc28 => ?_)
      · refine wp_seq ?_
        refine rg ?_
        refine pl_x HE79 HH62 (wt0 rfl) (x_move rfl) rfl rfl fun a_80 HE81 => ?_
        refine pl_x HE81 HH62 (wt0 rfl) (x_move rfl) rfl rfl fun a_82 HE83 => ?_
        refine pl_x HE83 HH62 (wt0 rfl) (x_assign rfl) rfl rfl fun a_84 HE85 => ?_
        refine pl_x HE85 HH62 (wt0 rfl) (x_assign rfl) rfl rfl fun a_86 HE87 => ?_
        refine wpList_nil ?_
        clear a_78 HE79 a_80 HE81 a_82 HE83 a_84 HE85
        refine nrm ?_
        refine wp_ret ?_
        refine (blk_ret (thn_ret (thn_ret (blk_ret (thn_ret ?_)))))
        refine ret2 HE87 rfl (rv_tmp rfl) (rv_tmp rfl) ?_
        have HH88 := HH62.toIf (0 ≤ (stepFI a0 a1).2)
        have hF : (stepFI a0 a1) = ((divN (mulN a1 ([e23.1] : List Int)) e23.2).1, (k : Int)) := by
          first | (subst xe23; unfold stepFI; rw [p21_1, stepFr_hit (by omega) hc28]; rfl) | (unfold stepFI; rw [p21_1, List.drop_of_length_le (by omega)]; rfl)
        rw [hF] at HH88
        exact ⟨_, _, _, by first | (rw [hF] <;> rfl) | rfl | (rw [hF]; simp only [Ending.returned.injEq, Value.slice.injEq, true_and, and_true]; first | omega | (simp; done)) | (rw [hF]; simp; omega), by rw [hF]; exact HH88.sel [0] (by decide) rfl⟩
      · refine wp_skip ?_
        refine blk_n ?_
        refine nrm ?_
        refine rg ?_
        refine pl_x HE79 HH62 (wt0 rfl) (x_add rfl rfl (by exact ⟨by omega, by omega⟩)) rfl rfl fun a_89 HE90 => ?_
        refine pl_x HE90 HH62 (wt0 rfl) (x_move rfl) rfl rfl fun a_91 HE92 => ?_
        refine wpList_nil ?_
        clear a_78 HE79 a_89 HE90
        exact nrm ⟨a0.length - (k + 1), (by omega), k + 1, rfl, HE92.sub ⟨(lkI rfl (by first | rfl | omega | (simp [p21_0, p21_1, hc22, xe23, hc28]; done))), rfl, rfl, rfl, trivial⟩, (HH62.sel [] (by decide) rfl), (by first | omega | assumption | (simp; done) | simp_all), (by subst xe23; rw [p21_1, stepFr_miss (by omega) hc28])⟩
    · refine wp_exit ?_
      refine (thn_exit (thn_exit (blk_hit ?_)))
      refine nrm ?_
      refine wp_seq ?_
      refine rg ?_
      refine pl_x HE18 HH16 (wt0 rfl) (x_move rfl) rfl rfl fun a_93 HE94 => ?_
      refine pl_x HE94 HH16 (wt0 rfl) (x_assign rfl) rfl rfl fun a_95 HE96 => ?_
      refine pl_x HE96 HH16 (wt0 rfl) (x_assign rfl) rfl rfl fun a_97 HE98 => ?_
      refine wpList_nil ?_
      clear a_17 HE18 a_93 HE94 a_95 HE96
      refine nrm ?_
      refine wp_ret ?_
      refine ret2 HE98 rfl (rv_tmp rfl) (rv_tmp rfl) ?_
      have hN : ¬ (0 ≤ (stepFI a0 a1).2) := by unfold stepFI; rw [p21_1, List.drop_of_length_le (by omega)]; simp [stepFr]
      have HH99 := HH16.noIf (rSo eInt Nob A1 c1 a1) hN
      have hF : (stepFI a0 a1) = (a1, -1) := by
        first | (subst xe0; unfold stepFI; rw [p21_1, stepFr_hit (by omega) hc22]; rfl) | (unfold stepFI; rw [p21_1, List.drop_of_length_le (by omega)]; rfl)
      rw [hF] at HH99
      exact ⟨_, _, _, by first | (rw [hF] <;> rfl) | rfl | (rw [hF]; simp only [Ending.returned.injEq, Value.slice.injEq, true_and, and_true]; first | omega | (simp; done)) | (rw [hF]; simp; omega), by rw [hF]; exact HH99.sel [0] (by decide) rfl⟩

set_option maxRecDepth 100000 in
set_option maxHeartbeats 4000000 in
theorem impl_RunFractions1 (A0 : Option Addr) (c0 : Nat) (a0 : (List Int)) (w : World) (h0 : Sl eInt w (Old w) A0 c0 a0) :
    Calls Tryz.prog 52 #[.slice A0 a0.length c0] w fun e w' => e = .returned (.bool (yes a0)) ∧ w = w' := by
  have l0 := h0.len
  have HH1 := Held.start Nob w
  refine enter (n := 3) Tryz.func52 rfl rfl rfl fun a_2 HE3 => ?_
  refine wp_seq ?_
  refine rg ?_
  refine pl_x HE3 HH1 (wt0 rfl) (x_assign rfl) rfl rfl fun a_4 HE5 => ?_
  refine wpList_nil ?_
  clear a_2 HE3
  refine nrm ?_
  refine wp_seq ?_
  refine rg ?_
  refine pl_x HE5 HH1 (wt0 rfl) (x_assign rfl) rfl rfl fun a_6 HE7 => ?_
  refine wpList_nil ?_
  clear a_4 HE5
  refine nrm ?_
  refine wp_ret ?_
  refine ret1 HE7 rfl (rv_tmp rfl) ?_
  have hF : (yes a0) = true := by
    first | rfl | (simp [yes]; done) | (simp [yes]; omega) | grind [yes]
  exact ⟨by first | (rw [hF] <;> rfl) | rfl | (rw [hF]; simp only [Ending.returned.injEq, Value.slice.injEq, true_and, and_true]; first | omega | (simp; done)) | (rw [hF]; simp; omega), rfl⟩

end Go.Proofs.YtcfdkckchbdafaaGreatDoor
