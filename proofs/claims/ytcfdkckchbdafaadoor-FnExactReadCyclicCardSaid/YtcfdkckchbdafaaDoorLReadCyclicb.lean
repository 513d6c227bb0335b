/- What the proof of FnExactReadCyclic needs: contracts of the functions that it reaches, each once. -/
import Derived.Test.YtcfdkckchbdafaaDoorProg
import Derived.Test.YtcfdkckchbdafaaDoorQMem
import Derived.Test.YtcfdkckchbdafaaDoorQOpen
import Derived.Test.YtcfdkckchbdafaaDoorLReadCyclica
import Derived.WalkKit
import Derived.WalkSpells
import Derived.Below
import Derived.LoopTactic
import Derived.Outline
import Derived.Deep.QuietTactic
import Derived.BigQuiet
import Derived.Deep.LoopGhost
import Derived.Handy
import Derived.Lib.Hide
import Derived.Shelf.Abstract
import Derived.StillTailTactics
import Derived.OwnWalk
import Derived.Maps.AppendAt
import Derived.RegionTactic
import Derived.Deep.RegionHeld3
import Derived.IntWalk
import Derived.Deep.Upon
import Derived.Laws.OwnMore
import Derived.Maps.AppendAt
import Derived.Laws.BytesString
import Derived.Laws.Strings
import Derived.Lib.Bytes
import Derived.Lib.Strings
import Derived.Lib.FrozenHead
import Derived.Lib.RuneBytes
import Derived.Lib.LaidTab
import Derived.Laws.StructEq
import Derived.Lib.ItoaLen
import Derived.Lib.Join
import Derived.Shelf.Strconv.Itoa4
import Derived.Shelf.Strings.OnBuilder
import Derived.Shelf.Strings.BuilderK
import Derived.Shelf.Strings.BuilderRune
import Derived.Shelf.LaysM
import Derived.Ground.NamesProg
import Derived.Lib.ParseIntBTie
import Derived.Lib.SplitLaws
import Derived.Lib.Replace
import Derived.Shelf.LaysC
import Derived.Shelf.Strconv.ErrVarParseInt
import Derived.Shelf.Strconv.ParseIntPublic10
import Derived.Shelf.Strings.Prefix
import Derived.Shelf.Strings.Cut
import Derived.Shelf.Strings.Split
import Derived.Shelf.Strings.Replace
import Derived.Shelf.Small.Wraps
import Derived.Stop.IfaceNil
namespace Go.Proofs.YtcfdkckchbdafaaDoor
open Go.RowKit

theorem Held.nfOM {M : Nat → Prop} {w0 : World} {xs rs : List Res} {w : World} (h : Held M w0 (xs ++ rs) w) {b o : Nat} {v : Value} (hM : ¬ M b) (hc : w0.cell? ⟨b, o, none⟩ = some v) : ¬ Foot xs b := by
  rintro ⟨r, hr, hb'⟩
  rcases (h.rng r (by simp [hr]) b hb').1 with q | q
  · exact hM q
  · have := block_of_cell hc
    omega

/-- The flat part in front given up. -/
theorem Held.unF {M : Nat → Prop} {w0 : World} {rs : List Res} {w : World} {α β : Type} {E : Enc α} {F : Enc β} {S : Nat → Prop} {v : Value} {cs : List Value} {x : α × β} (h1 : E.size = 1) (h : Held M w0 (rO (ePr E F) S (v :: cs) x :: rs) w) : Held M w0 (rO F S cs x.2 :: rs) w := by
  refine h.turn _ ?_ fun _ hb => hb
  rintro ⟨c1, c2, S1, S2, he, k1, k2, o1, o2⟩
  have hl := E.len (E.read o1)
  rw [h1] at hl
  obtain ⟨u, rfl⟩ := List.length_eq_one_iff.1 hl
  simp at he
  obtain ⟨_, rfl⟩ := he
  exact F.omore o2 k2

theorem Held.unP {M : Nat → Prop} {w0 : World} {rs : List Res} {w : World} {α β : Type} {E : Enc α} {F : Enc β} {S : Nat → Prop} {v : Value} {cs : List Value} {x : α × β} (h1 : E.size = 1) (h : Held M w0 (rO (ePr E F) S (v :: cs) x :: rs) w) : ∃ S1 S2, Held M w0 (rO E S1 [v] x.1 :: rO F S2 cs x.2 :: rs) w := by
  obtain ⟨c1, c2, S1, S2, he, k1, k2, o1, o2⟩ := h.ok _ (List.mem_cons_self)
  have hl := E.len (E.read o1)
  rw [h1] at hl
  obtain ⟨u, rfl⟩ := List.length_eq_one_iff.1 hl
  simp at he
  obtain ⟨rfl, rfl⟩ := he
  have hs := List.pairwise_cons.1 h.sep
  refine ⟨S1, S2, h.chg, ?_, ?_, ?_⟩
  · intro r hr
    simp only [List.mem_cons] at hr
    rcases hr with rfl | rfl | hr
    · exact o1
    · exact o2
    · exact h.ok r (by simp [hr])
  · intro r hr b hb
    simp only [List.mem_cons] at hr
    rcases hr with rfl | rfl | hr
    · exact h.rng _ (List.mem_cons_self) b (k1 b hb).1
    · exact h.rng _ (List.mem_cons_self) b (k2 b hb)
    · exact h.rng r (by simp [hr]) b hb
  · refine List.pairwise_cons.2 ⟨fun r hr b hb hb' => ?_, List.pairwise_cons.2 ⟨fun r hr b hb hb' => hs.1 r hr b (k2 b hb) hb', hs.2⟩⟩
    rcases List.mem_cons.1 hr with rfl | hr
    · exact (k1 b hb).2 hb'
    · exact hs.1 r hr b (k1 b hb).1 hb'

/-- An owned slice with one element laid open: its cells es; what the element owns (T) is held apart. -/
def Foc {α : Type} (E : Enc α) (w : World) (S : Nat → Prop) (b off c : Nat) (xs : List α) (k : Nat) (es : List Value) : Prop :=
  k < xs.length ∧ xs.length ≤ c ∧ c ≤ maxLen ∧ S b ∧ es.length = E.size ∧ ∃ (t : TypeId) (cur : Array Value) (T : Nat → Nat → Prop), Blk w b t cur ∧ (∀ i m, T i m → S m ∧ m ≠ b) ∧ (∀ i j m, T i m → T j m → i = j) ∧
    (∀ j v, es[j]? = some v → cur[off + k * E.size + j]? = some v) ∧ ∀ (i : Nat) (x : α), i ≠ k → xs[i]? = some x → ∃ us, E.O w (T i) us x ∧ ∀ j v, us[j]? = some v → cur[off + i * E.size + j]? = some v

theorem Foc.keep {α : Type} {E : Enc α} {w w' : World} {S : Nat → Prop} {b off c : Nat} {xs : List α} {k : Nat} {es : List Value} (h : Foc E w S b off c xs k es) (hk : ∀ b, S b → w'.heap[b]? = w.heap[b]?) : Foc E w' S b off c xs k es := by
  obtain ⟨h1, h2, h3, h4, h5, t, cur, T, hB, hT, hd, hc, hr⟩ := h
  refine ⟨h1, h2, h3, h4, h5, t, cur, T, (hk b h4).trans hB, hT, hd, hc, fun i x hi hx => ?_⟩
  obtain ⟨us, q1, q2⟩ := hr i x hi hx
  exact ⟨us, E.okeep q1 fun m hm => hk m (hT i m hm).1, q2⟩

def rFoc {α : Type} (E : Enc α) (S : Nat → Prop) (b off c : Nat) (xs : List α) (k : Nat) (es : List Value) : Res := ⟨S, fun w => Foc E w S b off c xs k es, fun _ _ h hf => hf.keep h⟩

theorem Held.open {M : Nat → Prop} {w0 : World} {rs : List Res} {w : World} {α : Type} {E : Enc α} {S : Nat → Prop} {A : Option Addr} {c : Nat} {xs : List α} (h : Held M w0 (rSo E S A c xs :: rs) w) {k : Nat} (hk : k < xs.length) :
    ∃ b off es T, A = some ⟨b, off, none⟩ ∧ E.R w (Old w) es xs[k] ∧ (∀ m, T m → S m ∧ m ≠ b) ∧ Held M w0 (rFoc E (fun m => S m ∧ ¬ T m) b off c xs k es :: rO E T es xs[k] :: rs) w := by
  have hso := so_of_o (h.ok _ (List.mem_cons_self))
  have hrng := h.rng _ (List.mem_cons_self)
  obtain ⟨b, off, t, cur, T, hA, hb, hB, hT, hd, hc⟩ := hso.2.2 (by intro e; subst e; simp at hk)
  obtain ⟨es, h1, h2⟩ := hc k xs[k] (List.getElem?_eq_getElem hk)
  have hs := List.pairwise_cons.1 h.sep
  refine ⟨b, off, es, T k, hA, E.more (E.read h1) (fun m hm => (hrng m (hT k m hm).1).2), fun m hm => hT k m hm, h.chg, ?_, ?_, ?_⟩
  · intro r hr
    simp only [List.mem_cons] at hr
    rcases hr with rfl | rfl | hr
    · refine ⟨hk, hso.1, hso.2.1, ⟨hb, fun hm => (hT k b hm).2 rfl⟩, E.len (E.read h1), t, cur, fun i m => i ≠ k ∧ T i m, hB, fun i m hm => ⟨⟨(hT i m hm.2).1, fun hm' => hm.1 (hd i k m hm.2 hm')⟩, (hT i m hm.2).2⟩, fun i j m h3 h4 => hd i j m h3.2 h4.2, h2, fun i x hi hx => ?_⟩
      obtain ⟨us, q1, q2⟩ := hc i x hx
      exact ⟨us, E.omore q1 fun m hm => ⟨hi, hm⟩, q2⟩
    · exact h1
    · exact h.ok r (by simp [hr])
  · intro r hr m hm
    simp only [List.mem_cons] at hr
    rcases hr with rfl | rfl | hr
    · exact hrng m hm.1
    · exact hrng m (hT k m hm).1
    · exact h.rng r (by simp [hr]) m hm
  · refine List.pairwise_cons.2 ⟨fun r hr m hm hm' => ?_, List.pairwise_cons.2 ⟨fun r hr m hm hm' => hs.1 r hr m (hT k m hm).1 hm', hs.2⟩⟩
    rcases List.mem_cons.1 hr with rfl | hr
    · exact hm.2 hm'
    · exact hs.1 r hr m hm.1 hm'

theorem Held.shut {M : Nat → Prop} {w0 : World} {rs : List Res} {w : World} {α : Type} {E : Enc α} {S T : Nat → Prop} {b off c k : Nat} {xs : List α} {es : List Value} {y : α} (h : Held M w0 (rFoc E S b off c xs k es :: rO E T es y :: rs) w) : Held M w0 (rSo E (fun m => S m ∨ T m) (some ⟨b, off, none⟩) c (xs.set k y) :: rs) w := by
  refine h.join _ (fun hf ho hd => ?_) fun _ hb => hb
  obtain ⟨h1, h2, h3, h4, h5, t, cur, T', hB, hT, hd', hc, hr⟩ := hf
  refine oSl ⟨by rw [List.length_set]; exact h2, h3, fun _ => ⟨b, off, t, cur, fun i m => (i = k ∧ T m) ∨ (i ≠ k ∧ T' i m), rfl, .inl h4, hB, ?_, ?_, fun i x hx => ?_⟩⟩
  · rintro i m (⟨_, hm⟩ | ⟨_, hm⟩)
    · exact ⟨.inr hm, fun e => hd b h4 (e ▸ hm)⟩
    · exact ⟨.inl (hT i m hm).1, (hT i m hm).2⟩
  · rintro i j m (⟨hi, hm⟩ | ⟨hi, hm⟩) (⟨hj, hm'⟩ | ⟨hj, hm'⟩)
    · rw [hi, hj]
    · exact absurd hm (hd m (hT j m hm').1)
    · exact absurd hm' (hd m (hT i m hm).1)
    · exact hd' i j m hm hm'
  · by_cases e : i = k
    · subst e
      rw [List.getElem?_set_self h1] at hx
      simp at hx; subst hx
      exact ⟨es, E.omore ho fun m hm => .inl ⟨rfl, hm⟩, hc⟩
    · rw [List.getElem?_set_ne (fun h => e h.symm)] at hx
      obtain ⟨us, q1, q2⟩ := hr i x e hx
      exact ⟨us, E.omore q1 fun m hm => .inr ⟨e, hm⟩, q2⟩

theorem Held.relen {M : Nat → Prop} {w0 : World} {rs : List Res} {w : World} {α : Type} {E : Enc α} {S : Nat → Prop} {A : Option Addr} {c n : Nat} {xs : List α} (h : Held M w0 (rSo E S A c xs :: rs) w) (hn : xs.length = n) : Held M w0 (rO (eSl E) S [.slice A n c] xs :: rs) w := hn ▸ h

theorem Held.lt {M : Nat → Prop} {w0 : World} {rs : List Res} {w : World} (h : Held M w0 rs w) {i : Nat} {r : Res} (hi : rs[i]? = some r) : ∀ b, r.S b → b < w.heap.size := fun b hb => (h.rng r (List.mem_of_getElem? hi) b hb).2

theorem x_bneq {P : Program} {S : World → Prop} {L : List (Nat × Value)} {d : Option Tmp} {t t' : TypeId} {x y : Operand} {m k : Bool} {ty : TypeId} {pos : String} {af : Array Edge} {g : Option (Nat × Bool)} (ht : P.underlying t = some .bool) (hx : ev L x = some (.bool m)) (hy : ev L y = some (.bool k)) : XS P S L ⟨d, .binOp .neq t x y t', ty, pos, af, g⟩ (.bool (!(m == k))) := fun _ _ w hE _ => by
  have h := run_equal_bool (P := P) w t m k ht
  simp only [execOp, hE.ev hx, hE.ev hy, eqGuard, binOp, Sem.run_bind]
  simp [h]

/-- What a callee made, beside what is held. -/
theorem Held.app {M : Nat → Prop} {w0 : World} {rs qs : List Res} {w w' : World} (h : Held M w0 rs w) (h' : Held Nob w qs w') : Held M w0 (qs ++ rs) w' where
  chg := (h.on h'.below).chg
  ok := by
    intro r hr
    rcases List.mem_append.1 hr with hr | hr
    · exact h'.ok r hr
    · exact (h.on h'.below).ok r hr
  rng := by
    intro r hr b hb
    rcases List.mem_append.1 hr with hr | hr
    · have h1 := h'.rng r hr b hb
      exact ⟨.inr (Nat.le_trans h.size (h1.1.resolve_left fun q => q.elim)), h1.2⟩
    · exact (h.on h'.below).rng r hr b hb
  sep := by
    refine List.pairwise_append.2 ⟨h'.sep, h.sep, fun r hr s hs b hb hb' => ?_⟩
    have h1 := (h'.rng r hr b hb).1.resolve_left fun q => q.elim
    have h2 := (h.rng s hs b hb').2
    omega

/-- Held only if p holds. -/
def rIf (p : Prop) (r : Res) : Res := ⟨r.S, fun w => p → r.φ w, fun w w' h hp hq => r.loc w w' h (hp hq)⟩

theorem Held.toIf {M : Nat → Prop} {w0 : World} {rs : List Res} {r : Res} {w : World} (h : Held M w0 (r :: rs) w) (p : Prop) : Held M w0 (rIf p r :: rs) w :=
  h.turn (rIf p r) (fun hr _ => hr) fun _ h => h

theorem Held.ofIf {M : Nat → Prop} {w0 : World} {rs : List Res} {r : Res} {w : World} {p : Prop} (h : Held M w0 (rIf p r :: rs) w) (hp : p) : Held M w0 (r :: rs) w :=
  h.turn r (fun hr => hr hp) fun _ h => h

theorem Held.noIf {M : Nat → Prop} {w0 : World} {rs : List Res} {w : World} {p : Prop} (h : Held M w0 rs w) {α : Type} {E : Enc α} {A : Option Addr} {c : Nat} {xs : List α} (r : Res) (hp : ¬ p) (hr : r = rSo E Nob A c xs := by rfl) : Held M w0 (rIf p r :: rs) w := by
  subst hr
  exact h.new (Below.refl _ _) (rIf p (rSo E Nob A c xs)) (fun hq => absurd hq hp) fun _ h => h.elim

/-- n cells, as they are. -/
def eRaw (n : Nat) (hn : 0 < n) : Enc (List Value) where
  size := n
  pos := hn
  R := fun _ _ cs x => cs = x ∧ x.length = n ∧ ∀ v ∈ x, v.oneCell' = true
  len := by rintro _ _ _ _ ⟨rfl, h, _⟩; exact h
  keep := fun h _ => h
  more := fun h _ => h
  O := fun _ _ cs x => cs = x ∧ x.length = n ∧ ∀ v ∈ x, v.oneCell' = true
  read := fun h => h
  okeep := fun h _ => h
  omore := fun h _ => h

/-- What the elements own, each for itself. -/
def Els {α : Type} (E : Enc α) (w : World) : (Nat → Prop) → List (List Value × α) → Prop
  | _, [] => True
  | S, p :: ps => ∃ S1 S2 : Nat → Prop, (∀ b, S1 b → S b ∧ ¬ S2 b) ∧ (∀ b, S2 b → S b) ∧ E.O w S1 p.1 p.2 ∧ Els E w S2 ps

theorem Els.keep {α : Type} {E : Enc α} {w w' : World} : ∀ {ps : List (List Value × α)} {S : Nat → Prop}, Els E w S ps → (∀ b, S b → w'.heap[b]? = w.heap[b]?) → Els E w' S ps
  | [], _, _, _ => trivial
  | _ :: _, _, ⟨S1, S2, h1, h2, h3, h4⟩, hk => ⟨S1, S2, h1, h2, E.okeep h3 fun b hb => hk b (h1 b hb).1, Els.keep h4 fun b hb => hk b (h2 b hb)⟩

theorem Els.more {α : Type} {E : Enc α} {w : World} : ∀ {ps : List (List Value × α)} {S S' : Nat → Prop}, Els E w S ps → (∀ b, S b → S' b) → Els E w S' ps
  | [], _, _, _, _ => trivial
  | _ :: _, _, _, ⟨S1, S2, h1, h2, h3, h4⟩, hm => ⟨S1, S2, fun b hb => ⟨hm b (h1 b hb).1, (h1 b hb).2⟩, fun b hb => hm b (h2 b hb), h3, h4⟩

theorem Els.perm {α : Type} {E : Enc α} {w : World} {ps qs : List (List Value × α)} (h : ps.Perm qs) : ∀ S, Els E w S ps → Els E w S qs := by
  induction h with
  | nil => exact fun _ h => h
  | cons p _ ih => rintro S ⟨S1, S2, h1, h2, h3, h4⟩; exact ⟨S1, S2, h1, h2, h3, ih _ h4⟩
  | swap p q ps =>
    rintro S ⟨S1, S2, h1, h2, h3, S3, S4, h5, h6, h7, h8⟩
    refine ⟨S3, fun b => S1 b ∨ S4 b, fun b hb => ⟨h2 b (h5 b hb).1, ?_⟩, ?_, h7, S1, S4, fun b hb => ⟨.inl hb, fun h => (h1 b hb).2 (h6 b h)⟩, fun b hb => .inr hb, h3, h8⟩
    · rintro (h | h)
      · exact (h1 b h).2 (h5 b hb).1
      · exact (h5 b hb).2 h
    · rintro b (h | h)
      · exact (h1 b h).1
      · exact h2 b (h6 b h)
  | trans _ _ i1 i2 => exact fun S h => i2 S (i1 S h)

theorem els_of {α : Type} {E : Enc α} {w : World} : ∀ (ps : List (List Value × α)) (T : Nat → Nat → Prop), (∀ i j b, T i b → T j b → i = j) → (∀ i p, ps[i]? = some p → E.O w (T i) p.1 p.2) → Els E w (fun b => ∃ i, T i b) ps
  | [], _, _, _ => trivial
  | p :: ps, T, hd, h => ⟨T 0, fun b => ∃ i, T (i + 1) b, fun b hb => ⟨⟨0, hb⟩, fun ⟨i, hi⟩ => by have := hd _ _ _ hb hi; omega⟩, fun b ⟨i, hi⟩ => ⟨i + 1, hi⟩, h 0 p rfl, els_of ps (fun i => T (i + 1)) (fun i j b h1 h2 => by have := hd _ _ _ h1 h2; omega) fun i q hq => h (i + 1) q (by simpa using hq)⟩

theorem els_fam {α : Type} {E : Enc α} {w : World} : ∀ (ps : List (List Value × α)) (S : Nat → Prop), Els E w S ps → ∃ T : Nat → Nat → Prop, (∀ i b, T i b → S b) ∧ (∀ i j b, T i b → T j b → i = j) ∧ ∀ i p, ps[i]? = some p → E.O w (T i) p.1 p.2
  | [], _, _ => ⟨fun _ _ => False, fun _ _ h => h.elim, fun _ _ _ h => h.elim, fun i p h => by simp at h⟩
  | p :: ps, S, ⟨S1, S2, h1, h2, h3, h4⟩ => by
    obtain ⟨T, t1, t2, t3⟩ := els_fam ps S2 h4
    refine ⟨fun i => match i with | 0 => S1 | i + 1 => T i, fun i b hb => ?_, fun i j b hi hj => ?_, fun i q hq => ?_⟩
    · cases i with
      | zero => exact (h1 b hb).1
      | succ i => exact h2 b (t1 i b hb)
    · cases i with
      | zero =>
        cases j with
        | zero => rfl
        | succ j => exact absurd (t1 j b hj) (h1 b hi).2
      | succ i =>
        cases j with
        | zero => exact absurd (t1 i b hi) (h1 b hj).2
        | succ j => rw [t2 i j b hi hj]
    · cases i with
      | zero => simp at hq; subst hq; exact h3
      | succ i => exact t3 i q (by simpa using hq)

def rEls {α : Type} (E : Enc α) (S : Nat → Prop) (ps : List (List Value × α)) : Res := ⟨S, fun w => Els E w S ps, fun _ _ h hv => hv.keep h⟩

/-- One part becomes two. -/
theorem Held.cleave {M : Nat → Prop} {w0 : World} {r : Res} {rs : List Res} {w : World} (h : Held M w0 (r :: rs) w) (p q : Res) (hp : p.φ w) (hq : q.φ w) (h1 : ∀ b, p.S b → r.S b) (h2 : ∀ b, q.S b → r.S b) (hd : ∀ b, p.S b → ¬ q.S b) : Held M w0 (p :: q :: rs) w where
  chg := h.chg
  ok := by
    intro x hx
    rcases List.mem_cons.1 hx with rfl | hx
    · exact hp
    rcases List.mem_cons.1 hx with rfl | hx
    · exact hq
    exact h.ok x (by simp [hx])
  rng := by
    intro x hx b hb
    rcases List.mem_cons.1 hx with rfl | hx
    · exact h.rng r (by simp) b (h1 b hb)
    rcases List.mem_cons.1 hx with rfl | hx
    · exact h.rng r (by simp) b (h2 b hb)
    exact h.rng x (by simp [hx]) b hb
  sep := by
    have hs := List.pairwise_cons.1 h.sep
    refine List.pairwise_cons.2 ⟨fun x hx b hb hb' => ?_, List.pairwise_cons.2 ⟨fun x hx b hb hb' => hs.1 x hx b (h2 b hb) hb', hs.2⟩⟩
    rcases List.mem_cons.1 hx with rfl | hx
    · exact hd b hb hb'
    · exact hs.1 x hx b (h1 b hb) hb'

/-- A row taken apart. -/
theorem Held.explode {M : Nat → Prop} {w0 : World} {rs : List Res} {w : World} {α : Type} {E : Enc α} {t : TypeId} {S : Nat → Prop} {A : Option Addr} {c : Nat} {xs : List α} (h : Held M w0 (rVec E t S A c xs :: rs) w) (h1 : ∀ w S es x, E.R w S es x → ∀ v ∈ es, v.oneCell' = true) :
    ∃ css S1 S2, List.length css = xs.length ∧ Held M w0 (rVec (eRaw E.size E.pos) t S1 A c css :: rEls E S2 (css.zip xs) :: rs) w := by
  obtain ⟨css, T, hl, ho, hb, hT, hd, hx⟩ := (h.ok _ List.mem_cons_self : Vec E t w S (.slice A xs.length c) xs)
  refine ⟨css, fun b => Value.ownBlock (.slice A xs.length c) = some b, fun b => ∃ i, T i b, hl, h.cleave _ _ ?_ ?_ (fun b hb' => hb b hb') (fun b ⟨i, hi⟩ => (hT i b hi).1) (fun b hb' ⟨i, hi⟩ => (hT i b hi).2 hb')⟩
  · show Vec (eRaw E.size E.pos) t w _ (.slice A css.length c) css
    rw [hl]
    refine ⟨css, fun _ _ => False, rfl, ?_, fun b hb' => hb', fun _ _ h => h.elim, fun _ _ _ h => h.elim, fun i x hi => ⟨x, hi, rfl, ?_⟩⟩
    · rw [hl]; exact ho
    · have hi' := (List.getElem?_eq_some_iff.1 hi).1
      obtain ⟨es, h2, h3⟩ := hx i xs[i] (List.getElem?_eq_getElem (by omega))
      rw [h2] at hi
      obtain rfl := Option.some.inj hi
      exact ⟨E.len (E.read h3), h1 _ _ _ _ (E.read h3)⟩
  · refine els_of _ T hd fun i p hp => ?_
    rw [List.getElem?_zip_eq_some] at hp
    obtain ⟨es, h2, h3⟩ := hx i p.2 hp.2
    rw [h2] at hp
    rw [← Option.some.inj hp.1]; exact h3

/-- .. and put together again. -/
theorem Held.implode {M : Nat → Prop} {w0 : World} {rs : List Res} {w : World} {α : Type} {E : Enc α} {t : TypeId} {S1 S2 : Nat → Prop} {A : Option Addr} {c : Nat} {css : List (List Value)} {xs : List α} {ps : List (List Value × α)} (h : Held M w0 (rVec (eRaw E.size E.pos) t S1 A c css :: rEls E S2 ps :: rs) w) (hl : css.length = xs.length) (hp : ps.Perm (css.zip xs)) :
    ∃ S, Held M w0 (rVec E t S A c xs :: rs) w := by
  refine ⟨fun b => S1 b ∨ S2 b, h.join _ (fun h1 h2 hd => ?_) fun _ hb => hb⟩
  obtain ⟨css', T', hl', ho, hb, _, _, hx⟩ := (h1 : Vec (eRaw E.size E.pos) t w S1 (.slice A css.length c) css)
  have e : css' = css := List.ext_getElem? fun i => by
    rcases Nat.lt_or_ge i css.length with hi | hi
    · obtain ⟨es, h3, h4⟩ := hx i css[i] (List.getElem?_eq_getElem hi)
      rw [h3, List.getElem?_eq_getElem hi, h4.1]
    · rw [List.getElem?_eq_none (by omega), List.getElem?_eq_none hi]
  subst e
  obtain ⟨T, t1, t2, t3⟩ := els_fam _ _ (Els.perm hp _ (h2 : Els E w S2 ps))
  show Vec E t w _ (.slice A xs.length c) xs
  rw [hl] at ho hb
  refine ⟨css', T, hl, ho, fun b hb' => .inl (hb b hb'), fun i b hi => ⟨.inr (t1 i b hi), fun hb' => hd b (hb b hb') (t1 i b hi)⟩, t2, fun i x hi => ?_⟩
  have hi' := (List.getElem?_eq_some_iff.1 hi).1
  have hc : css'[i]? = some css'[i] := List.getElem?_eq_getElem (by omega)
  exact ⟨css'[i], hc, t3 i (css'[i], x) (List.getElem?_zip_eq_some.2 ⟨hc, hi⟩)⟩

/-- The first element's memory, for itself. -/
theorem Held.peel {M : Nat → Prop} {w0 : World} {rs : List Res} {w : World} {α : Type} {E : Enc α} {S : Nat → Prop} {p : List Value × α} {ps : List (List Value × α)} (h : Held M w0 (rEls E S (p :: ps) :: rs) w) : ∃ S1 S2, Held M w0 (rO E S1 p.1 p.2 :: rEls E S2 ps :: rs) w := by
  obtain ⟨S1, S2, h1, h2, h3, h4⟩ := (h.ok _ List.mem_cons_self : Els E w S (p :: ps))
  exact ⟨S1, S2, h.cleave (rO E S1 p.1 p.2) (rEls E S2 ps) h3 h4 (fun b hb => (h1 b hb).1) h2 fun b hb => (h1 b hb).2⟩

theorem Held.unpeel {M : Nat → Prop} {w0 : World} {rs : List Res} {w : World} {α : Type} {E : Enc α} {S1 S2 : Nat → Prop} {p : List Value × α} {ps : List (List Value × α)} (h : Held M w0 (rO E S1 p.1 p.2 :: rEls E S2 ps :: rs) w) : ∃ S, Held M w0 (rEls E S (p :: ps) :: rs) w :=
  ⟨fun b => S1 b ∨ S2 b, h.join (rEls E _ (p :: ps)) (fun h1 h2 hd => ⟨S1, S2, fun b hb => ⟨.inl hb, hd b hb⟩, fun b hb => .inr hb, h1, h2⟩) fun _ hb => hb⟩

theorem Held.elsPerm {M : Nat → Prop} {w0 : World} {rs : List Res} {w : World} {α : Type} {E : Enc α} {S : Nat → Prop} {ps qs : List (List Value × α)} (h : Held M w0 (rEls E S ps :: rs) w) (hp : ps.Perm qs) : Held M w0 (rEls E S qs :: rs) w :=
  h.turn (rEls E S qs) (fun h1 => Els.perm hp _ h1) fun _ hb => hb

abbrev bs (l : List UInt8) : ByteArray := ⟨l.toArray⟩

theorem bs_size (l : List UInt8) : (bs l).size = l.length := by simp [bs, ByteArray.size]

theorem bs_toList (l : List UInt8) : (bs l).toList = l := by rw [Go.Lib.toList_data]

theorem bs_eta (s : ByteArray) : bs s.data.toList = s := by cases s; simp

/-- A text. -/
def eTxt : Enc (List UInt8) where
  size := 1
  pos := Nat.zero_lt_one
  R := fun _ _ cs x => cs = [.string (bs x)] ∧ x.length ≤ 9223372036854775807
  len := by rintro _ _ _ _ ⟨rfl, _⟩; rfl
  keep := fun h _ => h
  more := fun h _ => h
  O := fun _ _ cs x => cs = [.string (bs x)] ∧ x.length ≤ 9223372036854775807
  read := fun h => h
  okeep := fun h _ => h
  omore := fun h _ => h

theorem oS {w : World} {S : Nat → Prop} {x : List UInt8} (h : x.length ≤ 9223372036854775807) : eTxt.O w S [.string (bs x)] x := ⟨rfl, h⟩

theorem beq_dec (m k : List UInt8) : (m == k) = decide (m = k) := by
  by_cases h : m = k <;> simp [h]

theorem x_seqlB {P : Program} {S : World → Prop} {L : List (Nat × Value)} {d : Option Tmp} {t t' : TypeId} {x y : Operand} {m k : List UInt8} {ty : TypeId} {pos : String} {af : Array Edge} {g : Option (Nat × Bool)} (hx : ev L x = some (.string (bs m))) (hy : ev L y = some (.string (bs k))) : XS P S L ⟨d, .binOp .eql t x y t', ty, pos, af, g⟩ (.bool (decide (m = k))) := by
  have := x_seql (P := P) (S := S) (d := d) (t := t) (t' := t') (ty := ty) (pos := pos) (af := af) (g := g) hx hy
  rwa [bs_toList, bs_toList, beq_dec] at this

theorem x_sneqB {P : Program} {S : World → Prop} {L : List (Nat × Value)} {d : Option Tmp} {t t' : TypeId} {x y : Operand} {m k : List UInt8} {ty : TypeId} {pos : String} {af : Array Edge} {g : Option (Nat × Bool)} (hx : ev L x = some (.string (bs m))) (hy : ev L y = some (.string (bs k))) : XS P S L ⟨d, .binOp .neq t x y t', ty, pos, af, g⟩ (.bool (!decide (m = k))) := by
  have := x_sneq (P := P) (S := S) (d := d) (t := t) (t' := t') (ty := ty) (pos := pos) (af := af) (g := g) hx hy
  rwa [bs_toList, bs_toList, beq_dec] at this

theorem x_lenB {P : Program} {S : World → Prop} {L : List (Nat × Value)} {d : Option Tmp} {x : Operand} {t : TypeId} {s : List UInt8} {ty : TypeId} {pos : String} {af : Array Edge} {g : Option (Nat × Bool)} (ht : P.underlying t = some .string) (hx : ev L x = some (.string (bs s))) : XS P S L ⟨d, .call { callee := .builtin .len, args := #[x], argTypes := #[t] }, ty, pos, af, g⟩ (.int .i64 (s.length : Int)) := by
  have := x_lenS (P := P) (S := S) (d := d) (ty := ty) (pos := pos) (af := af) (g := g) ht hx
  rwa [bs_size] at this

theorem x_idxB {P : Program} {S : World → Prop} {L : List (Nat × Value)} {d : Option Tmp} {t : TypeId} {x y : Operand} {l : List UInt8} {q : IntKind} {m : Int} {k : Nat} {b : UInt8} {ty : TypeId} {pos : String} {af : Array Edge} {g : Option (Nat × Bool)} (ht : P.underlying t = some .string) (hx : ev L x = some (.string (bs l))) (hy : ev L y = some (.int q m)) (hm : m = (k : Int)) (hk : k < l.length) (hb : b = l[k]) : XS P S L ⟨d, .index t x y, ty, pos, af, g⟩ (.int .u8 (b.toNat : Int)) := fun _ _ w hE _ => by
  subst hm hb
  have h := run_index_string (P := P) w t (bs l) q (k : Int) ht
  rw [dif_pos ⟨by omega, by rw [bs_size]; omega⟩] at h
  simp only [execOp, hE.ev hx, hE.ev hy, Sem.run_bind, h, Result.andThen_ok]
  rfl

theorem x_sliceSL {P : Program} {S : World → Prop} {L : List (Nat × Value)} {d : Option Tmp} {x lo : Operand} {t : TypeId} {l : List UInt8} {k : Nat} {m : Int} {q : IntKind} {ty : TypeId} {pos : String} {af : Array Edge} {g : Option (Nat × Bool)} (ht : P.underlying t = some .string) (hx : ev L x = some (.string (bs l))) (hlo : ev L lo = some (.int q m)) (hm : m = (k : Int)) (hk : k ≤ l.length) : XS P S L ⟨d, .slice t x (some lo) none none, ty, pos, af, g⟩ (.string (bs (l.drop k))) := fun _ _ _ hE _ => by
  subst hm
  have hsz := bs_size l
  have e : (bs l).extract k (bs l).size = bs (l.drop k) := by
    refine WideShapes.bytes_inj ?_
    rw [Go.Lib.extract_data, hsz]
    exact List.take_of_length_le (by rw [List.length_drop]; exact Nat.le_refl _)
  simp [execOp, hE.ev hx, hE.ev hlo, Instr.sliceAt, Instr.slice, run_underlying ht, Instr.sliceBounds, Instr.sliceBound, asIntOf, hsz, hk]
  simpa [hsz] using e

theorem x_sliceSH {P : Program} {S : World → Prop} {L : List (Nat × Value)} {d : Option Tmp} {x lo hi : Operand} {t : TypeId} {l : List UInt8} {k k2 : Nat} {m m2 : Int} {q q2 : IntKind} {ty : TypeId} {pos : String} {af : Array Edge} {g : Option (Nat × Bool)} (ht : P.underlying t = some .string) (hx : ev L x = some (.string (bs l))) (hlo : ev L lo = some (.int q m)) (hhi : ev L hi = some (.int q2 m2)) (hm : m = (k : Int)) (hm2 : m2 = (k2 : Int)) (hk : k ≤ k2) (hk2 : k2 ≤ l.length) : XS P S L ⟨d, .slice t x (some lo) (some hi) none, ty, pos, af, g⟩ (.string (bs ((l.drop k).take (k2 - k)))) := fun _ _ _ hE _ => by
  subst hm hm2
  have hsz := bs_size l
  have e : (bs l).extract k k2 = bs ((l.drop k).take (k2 - k)) := by
    refine WideShapes.bytes_inj ?_
    rw [Go.Lib.extract_data]
  simp [execOp, hE.ev hx, hE.ev hlo, hE.ev hhi, Instr.sliceAt, Instr.slice, run_underlying ht, Instr.sliceBounds, Instr.sliceBound, asIntOf, hsz, hk, hk2]
  simpa [hsz] using e

theorem c_ownS {M : Nat → Prop} {w0 : World} {rs : List Res} {S : Nat → Prop} {b off c k : Nat} {xs : List (List UInt8)} {y : List UInt8} (i : Nat) (hi : rs[i]? = some (rSo eTxt S (some ⟨b, off, none⟩) c xs)) (hk : k < xs.length) (hy : xs[k] = y) : ∀ w, Held M w0 rs w → w.cell? ⟨b, off + k * 1, none⟩ = some (.string (bs y)) := fun w h => by
  obtain ⟨b', off', es, hA, _, hR, hc⟩ := (h.sl hi).at hk
  simp only [Option.some.injEq, Addr.mk.injEq, and_true] at hA
  obtain ⟨rfl, rfl⟩ := hA
  obtain ⟨rfl, _⟩ := hR
  have := hc 0 _ rfl
  rw [← hy]; exact this

theorem i_ownS {M : Nat → Prop} {w0 w : World} {rs : List Res} {S : Nat → Prop} {A : Option Addr} {c k : Nat} {xs : List (List UInt8)} (h : Held M w0 rs w) (i : Nat) (hi : rs[i]? = some (rSo eTxt S A c xs)) (hk : k < xs.length) : xs[k].length ≤ 9223372036854775807 := by
  obtain ⟨b', off', es, hA, _, hR, hc⟩ := (h.sl hi).at hk
  exact hR.2

/-- A builder in block b, its own blocks in S, holding the bytes l. -/
def BldIn (T e : TypeId) (B b : Nat) (S : Nat → Prop) (l : List UInt8) (w : World) : Prop :=
  Lib.IsBuilderF T e B b (Lib.byteCells l) w ∧ S b ∧ ∀ p v g, w.heap[b]? = some (.cells #[p, v] T (0, 0)) → v.ownBlock = some g → S g

theorem BldIn.loc {T e : TypeId} {B b : Nat} {S : Nat → Prop} {l : List UInt8} {w w' : World} (hs : ∀ k, S k → w'.heap[k]? = w.heap[k]?) (h : BldIn T e B b S l w) : BldIn T e B b S l w' := by
  obtain ⟨h1, h2, h3⟩ := h
  have key : ∀ p, Lib.BuilderAtF T e B b p (Lib.byteCells l) w → Lib.BuilderAtF T e B b p (Lib.byteCells l) w' := by
    rintro p ⟨hB, v, hb, hown, hne⟩
    refine ⟨hB, v, (hs b h2).trans hb, ⟨hown.1, ?_⟩, hne⟩
    rcases hown.2 with hn | ⟨g, cap, cur, fz, rfl, hbg, hg, rest⟩
    · exact .inl hn
    · exact .inr ⟨g, cap, cur, fz, rfl, hbg, (hs g (h3 _ _ g hb (by simp [Value.ownBlock]))).trans hg, rest⟩
  refine ⟨?_, h2, fun p v g hb hv => h3 p v g ((hs b h2).symm.trans hb) hv⟩
  rcases h1 with h | h
  · exact .inl (key _ h)
  · exact .inr (key _ h)

def rBldT (T e : TypeId) (B b : Nat) (S : Nat → Prop) (l : List UInt8) : Res := ⟨S, BldIn T e B b S l, fun _ _ hs h => BldIn.loc hs h⟩

theorem BldIn.mk {T e : TypeId} {B b : Nat} {l : List UInt8} {w : World} (h : Lib.IsBuilderF T e B b (Lib.byteCells l) w) : BldIn T e B b (Iv B w.heap.size) l w := by
  have hb : B ≤ b ∧ b < w.heap.size := by
    rcases h with h | h
    · exact ⟨h.1, h.lt⟩
    · exact ⟨h.1, h.lt⟩
  refine ⟨h, hb, fun p v g hh hv => ?_⟩
  have key : ∀ q, Lib.BuilderAtF T e B b q (Lib.byteCells l) w → Iv B w.heap.size g := by
    rintro q ⟨_, v', hb', hown, _⟩
    rw [hh] at hb'
    simp only [Option.some.injEq, Obj.cells.injEq, and_true] at hb'
    have e2 : v = v' := by
      have := congrArg (fun a : Array Value => a[1]?) hb'
      simpa using this
    subst e2
    exact hown.lt g hv
  rcases h with h | h
  · exact key _ h
  · exact key _ h

theorem Held.bldCall {T e : TypeId} {w0 w w' : World} {b : Nat} {S : Nat → Prop} {l l' : List UInt8} (h : Held Nob w0 [rBldT T e w0.heap.size b S l] w) (hb : Below w0.heap.size w w') (hi : Lib.IsBuilderF T e w0.heap.size b (Lib.byteCells l') w') : ∃ S', Held Nob w0 [rBldT T e w0.heap.size b S' l'] w' := by
  refine ⟨Iv w0.heap.size w'.heap.size, ?_⟩
  have hb2 : Below w0.heap.size w0 w' := h.below.trans hb
  exact ⟨.of_below hb2, by intro r hr; obtain rfl := List.mem_singleton.1 hr; exact BldIn.mk hi, by intro r hr; obtain rfl := List.mem_singleton.1 hr; exact fun k hk => ⟨.inr hk.1, hk.2⟩, List.pairwise_singleton _ _⟩

theorem Held.toBld {T e : TypeId} {w0 w : World} {b : Nat} {rs : List Res} (h : Held Nob w0 (rBlk b T [.pointer none, .slice none 0 0] :: rs) w) : ∃ S, Held Nob w0 [rBldT T e w0.heap.size b S []] w := by
  have hB : Blk w b T #[.pointer none, .slice none 0 0] := h.ok _ List.mem_cons_self
  have hr := h.rng _ (List.mem_cons_self) b rfl
  have hle : w0.heap.size ≤ b := hr.1.resolve_left fun x => x.elim
  have hi : Lib.IsBuilderF T e w0.heap.size b (Lib.byteCells []) w := .inl ⟨hle, _, hB, by simpa [Lib.byteCells] using World.ownsRowF_nil w w0.heap.size e 1, by simp [Value.ownBlock]⟩
  refine ⟨Iv w0.heap.size w.heap.size, ⟨h.chg, ?_, ?_, List.pairwise_singleton _ _⟩⟩
  · intro r hr; obtain rfl := List.mem_singleton.1 hr; exact BldIn.mk hi
  · intro r hr; obtain rfl := List.mem_singleton.1 hr; exact fun k hk => ⟨.inr hk.1, hk.2⟩

theorem Held.isBld {T e : TypeId} {M : Nat → Prop} {w0 w : World} {B b : Nat} {S : Nat → Prop} {l : List UInt8} {rs : List Res} (h : Held M w0 (rBldT T e B b S l :: rs) w) : Lib.IsBuilderF T e B b (Lib.byteCells l) w := (h.ok _ List.mem_cons_self : BldIn T e B b S l w).1

theorem x_sub8 {P : Program} {S : World → Prop} {L : List (Nat × Value)} {d : Option Tmp} {t t' : TypeId} {x y : Operand} {m k : Int} {ty : TypeId} {pos : String} {af : Array Edge} {g : Option (Nat × Bool)} (hx : ev L x = some (.int .u8 m)) (hy : ev L y = some (.int .u8 k)) (h : 0 ≤ m - k ∧ m - k ≤ 255) : XS P S L ⟨d, .binOp .sub t x y t', ty, pos, af, g⟩ (.int .u8 (m - k)) := fun _ _ _ hE _ => by
  have e : IntKind.u8.wrap (m - k) = m - k := IntWalk.u8_in _ h
  simp only [execOp, hE.ev hx, hE.ev hy, eqGuard, binOp, Op.intArith, e]; rfl

/-- What a package-level variable holds stays when only new blocks come and blocks behind it change. -/
theorem tab_below {P : Program} {w w' : World} {name : String} {k : IntKind} {zs : List Int} {g : Nat} (hg : P.globalNamed name = some g) (h : Lib.TabIs P w name k zs) (hb : Below w.heap.size w w') : Lib.TabIs P w' name k zs := by
  unfold Lib.TabIs World.var? at h ⊢
  rw [hg] at h ⊢
  simp only [Option.bind_some] at h ⊢
  have hlt : g < w.heap.size := by
    rcases Nat.lt_or_ge g w.heap.size with hlt | hge
    · exact hlt
    · rw [Array.getElem?_eq_none hge] at h; cases h
  rw [hb.block g hlt]
  exact h

theorem tv_2 : TV Tryd.prog 2 false [.int .i64 0] := by
  obtain ⟨i, h1, h2, h3⟩ := tv_parts (show (Tryd.prog.info? 2).map (fun i => (i.zero, i.size)) = some (some (.int .i64 0), 1) from by kernel_rfl)
  exact ⟨⟨_, Tryd.underlying2, rfl⟩, i, _, h1, h2, h3, rfl⟩

theorem tv_9 : TV Tryd.prog 9 false [.string ByteArray.empty] := by
  obtain ⟨i, h1, h2, h3⟩ := tv_parts (show (Tryd.prog.info? 9).map (fun i => (i.zero, i.size)) = some (some (.string ByteArray.empty), 1) from by kernel_rfl)
  exact ⟨⟨_, Tryd.underlying9, rfl⟩, i, _, h1, h2, h3, rfl⟩

theorem tv_22 : TV Tryd.prog 22 false [.slice none 0 0] := by
  obtain ⟨i, h1, h2, h3⟩ := tv_parts (show (Tryd.prog.info? 22).map (fun i => (i.zero, i.size)) = some (some (.slice none 0 0), 1) from by kernel_rfl)
  exact ⟨⟨_, Tryd.underlying22, rfl⟩, i, _, h1, h2, h3, rfl⟩

theorem tv_24 : TV Tryd.prog 24 true [.slice none 0 0] := by
  obtain ⟨i, h1, h2, h3⟩ := tv_parts (show (Tryd.prog.info? 24).map (fun i => (i.zero, i.size)) = some (some (.agg #[.slice none 0 0]), 1) from by kernel_rfl)
  exact ⟨⟨_, Tryd.underlying24, rfl⟩, i, _, h1, h2, h3, rfl⟩

theorem tv_41 : TV Tryd.prog 41 false [.slice none 0 0] := by
  obtain ⟨i, h1, h2, h3⟩ := tv_parts (show (Tryd.prog.info? 41).map (fun i => (i.zero, i.size)) = some (some (.slice none 0 0), 1) from by kernel_rfl)
  exact ⟨⟨_, Tryd.underlying41, rfl⟩, i, _, h1, h2, h3, rfl⟩

theorem ts_22 : TSl Tryd.prog 22 41 1 24 := by
  obtain ⟨i, h1, h2, h3, h4⟩ := ts_parts (show (Tryd.prog.info? 41).map (fun i => (i.zero, i.size, i.bytes)) = some (some (.slice none 0 0), 1, 24) from by kernel_rfl)
  exact ⟨Tryd.underlying22, i, _, h1, h2, h3, h4, rfl⟩

theorem fa_24_0 : ∀ b o w, (Instr.fieldAt 24 (.pointer (some ⟨b, o, none⟩)) 0).run Tryd.prog w = .ok (.pointer (some ⟨b, o + 0, none⟩)) w := by
  obtain ⟨i, z, h1, _, h3, _⟩ := tv_22.info
  exact fun b o w => fieldAt_of (f := 0) Tryd.underlying24 rfl h1 (by rw [h3]; decide) b o w

theorem tb_24 : TB Tryd.prog 24 [.slice none 0 0] := by
  refine ⟨tv_24, _, #[(0, 1)], Tryd.underlying24, fun w => ?_, fun i hi => ?_⟩
  · obtain ⟨i22, z22, h22, _, s22, _⟩ := tv_22.info; simp only [List.length_cons, List.length_nil] at s22
    simp [sizeOf, typeInfo, h22, s22]
  · simp only [List.length_cons, List.length_nil] at hi
    match i, hi with
    | 0, _ => rfl

theorem ts_39 : TSl Tryd.prog 39 9 1 16 := by
  obtain ⟨i, h1, h2, h3, h4⟩ := ts_parts (show (Tryd.prog.info? 9).map (fun i => (i.zero, i.size, i.bytes)) = some (some (.string ByteArray.empty), 1, 16) from by kernel_rfl)
  exact ⟨Tryd.underlying39, i, _, h1, h2, h3, h4, rfl⟩

theorem ts_41 : TSl Tryd.prog 41 2 1 8 := by
  obtain ⟨i, h1, h2, h3, h4⟩ := ts_parts (show (Tryd.prog.info? 2).map (fun i => (i.zero, i.size, i.bytes)) = some (some (.int .i64 0), 1, 8) from by kernel_rfl)
  exact ⟨Tryd.underlying41, i, _, h1, h2, h3, h4, rfl⟩

theorem en_4 : ∀ args w, (callFunc 4 args).run Tryd.prog w = .ok (.enter 4 args) w := enters_of Tryd.func4 (by kernel_rfl) rfl

theorem en_5 : ∀ args w, (callFunc 5 args).run Tryd.prog w = .ok (.enter 5 args) w := enters_of Tryd.func5 (by kernel_rfl) rfl

theorem en_6 : ∀ args w, (callFunc 6 args).run Tryd.prog w = .ok (.enter 6 args) w := enters_of Tryd.func6 (by kernel_rfl) rfl

theorem en_7 : ∀ args w, (callFunc 7 args).run Tryd.prog w = .ok (.enter 7 args) w := enters_of Tryd.func7 (by kernel_rfl) rfl

theorem en_8 : ∀ args w, (callFunc 8 args).run Tryd.prog w = .ok (.enter 8 args) w := enters_of Tryd.func8 (by kernel_rfl) rfl

theorem en_9 : ∀ args w, (callFunc 9 args).run Tryd.prog w = .ok (.enter 9 args) w := enters_of Tryd.func9 (by kernel_rfl) rfl

theorem en_10 : ∀ args w, (callFunc 10 args).run Tryd.prog w = .ok (.enter 10 args) w := enters_of Tryd.func10 (by kernel_rfl) rfl

theorem en_11 : ∀ args w, (callFunc 11 args).run Tryd.prog w = .ok (.enter 11 args) w := enters_of Tryd.func11 (by kernel_rfl) rfl

theorem en_12 : ∀ args w, (callFunc 12 args).run Tryd.prog w = .ok (.enter 12 args) w := enters_of Tryd.func12 (by kernel_rfl) rfl

theorem en_13 : ∀ args w, (callFunc 13 args).run Tryd.prog w = .ok (.enter 13 args) w := enters_of Tryd.func13 (by kernel_rfl) rfl

theorem en_17 : ∀ args w, (callFunc 17 args).run Tryd.prog w = .ok (.enter 17 args) w := enters_of Tryd.func17 (by kernel_rfl) rfl

theorem en_18 : ∀ args w, (callFunc 18 args).run Tryd.prog w = .ok (.enter 18 args) w := enters_of Tryd.func18 (by kernel_rfl) rfl

theorem en_20 : ∀ args w, (callFunc 20 args).run Tryd.prog w = .ok (.enter 20 args) w := enters_of Tryd.func20 (by kernel_rfl) rfl

theorem en_21 : ∀ args w, (callFunc 21 args).run Tryd.prog w = .ok (.enter 21 args) w := enters_of Tryd.func21 (by kernel_rfl) rfl

theorem en_25 : ∀ args w, (callFunc 25 args).run Tryd.prog w = .ok (.enter 25 args) w := enters_of Tryd.func25 (by kernel_rfl) rfl

theorem en_29 : ∀ args w, (callFunc 29 args).run Tryd.prog w = .ok (.enter 29 args) w := enters_of Tryd.func29 (by kernel_rfl) rfl

theorem en_32 : ∀ args w, (callFunc 32 args).run Tryd.prog w = .ok (.enter 32 args) w := enters_of Tryd.func32 (by kernel_rfl) rfl

theorem en_33 : ∀ args w, (callFunc 33 args).run Tryd.prog w = .ok (.enter 33 args) w := enters_of Tryd.func33 (by kernel_rfl) rfl

theorem en_37 : ∀ args w, (callFunc 37 args).run Tryd.prog w = .ok (.enter 37 args) w := enters_of Tryd.func37 (by kernel_rfl) rfl

theorem en_38 : ∀ args w, (callFunc 38 args).run Tryd.prog w = .ok (.enter 38 args) w := enters_of Tryd.func38 (by kernel_rfl) rfl

theorem en_39 : ∀ args w, (callFunc 39 args).run Tryd.prog w = .ok (.enter 39 args) w := enters_of Tryd.func39 (by kernel_rfl) rfl

theorem en_44 : ∀ args w, (callFunc 44 args).run Tryd.prog w = .ok (.enter 44 args) w := enters_of Tryd.func44 (by kernel_rfl) rfl

theorem en_48 : ∀ args w, (callFunc 48 args).run Tryd.prog w = .ok (.enter 48 args) w := enters_of Tryd.func48 (by kernel_rfl) rfl

theorem en_56 : ∀ args w, (callFunc 56 args).run Tryd.prog w = .ok (.enter 56 args) w := enters_of Tryd.func56 (by kernel_rfl) rfl

theorem en_57 : ∀ args w, (callFunc 57 args).run Tryd.prog w = .ok (.enter 57 args) w := enters_of Tryd.func57 (by kernel_rfl) rfl

theorem en_58 : ∀ args w, (callFunc 58 args).run Tryd.prog w = .ok (.enter 58 args) w := enters_of Tryd.func58 (by kernel_rfl) rfl

theorem en_68 : ∀ args w, (callFunc 68 args).run Tryd.prog w = .ok (.enter 68 args) w := enters_of Tryd.func68 (by kernel_rfl) rfl

theorem cntL_bound {α : Type} {c : α → Nat} {n : Nat} : ∀ {xs : List α}, (∀ x ∈ xs, c x ≤ n) → cntL c xs ≤ n * xs.length
  | [], _ => by simp [cntL]
  | x :: xs, h => by
    have h1 := cntL_bound (c := c) (n := n) (xs := xs) fun y hy => h y (by simp [hy])
    have h2 := h x (by simp)
    unfold cntL at h1 ⊢
    rw [List.map_cons, List.sum_cons, List.length_cons, Nat.mul_succ]
    omega

theorem ct_L_len (xs : List Int) : ct_L xs = xs.length := by
  have := cntL_const ct_i 1 xs fun _ => rfl
  unfold ct_L; omega

def outB (lo hi n : Int) : Bool := !withinB n lo hi

def allW (xs : List Int) (lo hi : Int) : Bool := !xs.any (outB lo hi)

theorem impl_allWithin (A : Option Addr) (c : Nat) (xs : List Int) (lo hi : Int) (w : World) (h : Sl eInt w (Old w) A c xs) :
    Calls Tryd.prog 47 #[.slice A xs.length c, .int .i64 lo, .int .i64 hi] w fun e w' => e = .returned (.bool (allW xs lo hi)) ∧ w = w' := by
  have hlen := h.len
  have H := Lib.hid h; clear h
  unfold allW
  go_enter Tryd.func47, Tryd.ntmps47
  go_wp2
  go_loop [8, 11] (fun _ i => ∃ k : Nat, k ≤ xs.length ∧ i = .int .i64 k ∧ Hid ((xs.take k).any (outB lo hi) = false)) (fun _ i => xs.length - (intOf i).toNat)
  case atStart => exact ⟨0, Nat.zero_le _, rfl, rfl⟩
  case round =>
    obtain ⟨k, hk, rfl, HN⟩ := hrel
    by_cases hlt : k < xs.length
    · have hltz : (k : Int) < (xs.length : Int) := by omega
      obtain ⟨b, off, es, rfl, hb, ⟨rfl, _⟩, hc⟩ := H.out.at1 rfl hlt
      have d0 : w.cell? ⟨b, off + k, none⟩ = some (.int .i64 xs[k]) := hc _ rfl
      clear hc
      have HT : Hid (outB lo hi xs[k] = true → xs.any (outB lo hi) = true) := fun e => any_hit hlt e
      have HS : Hid (outB lo hi xs[k] = false → (xs.take (k + 1)).any (outB lo hi) = false) := fun e => any_step hlt HN.out e
      generalize xs[k] = y at d0 HT HS
      cases q1 : withinB y lo hi
      · go_wp2_with (go_at_call 22; refine (impl_within _ _ _ _).mono ?_; rintro e w' ⟨rfl, rfl⟩; rw [q1])
        go_ret
        exact ⟨by rw [HT.out (by unfold outB; rw [q1]; rfl)]; rfl, rfl⟩
      · go_wp2_with (go_at_call 22; refine (impl_within _ _ _ _).mono ?_; rintro e w' ⟨rfl, rfl⟩; rw [q1])
        go_round
        case rel => exact ⟨k + 1, by omega, by go_num, HS.out (by unfold outB; rw [q1]; rfl)⟩
        case measure => simp [intOf]; omega
    · have hltz : ¬ (k : Int) < (xs.length : Int) := by omega
      obtain rfl : k = xs.length := by omega
      go_wp2
      go_ret
      have hn := HN.out
      rw [List.take_length] at hn
      exact ⟨ret_bool (by rw [hn]; rfl), rfl⟩

def isTagW (xs : List Int) (n : Int) : Bool := decide (xs.length ≤ 1000) && allW xs 0 (n - 1)

theorem impl_isTagWord (A : Option Addr) (c : Nat) (xs : List Int) (n : Int) (w : World) (h : Sl eInt w (Old w) A c xs) (hn : 1 ≤ n) (hn' : n ≤ 1048576) :
    Calls Tryd.prog 36 #[.slice A xs.length c, .int .i64 n] w fun e w' => e = .returned (.bool (isTagW xs n)) ∧ w = w' := by
  have H := Lib.hid h; clear h
  by_cases h1 : xs.length ≤ 1000
  · have h1' : decide ((xs.length : Int) ≤ 1000) = true := by simp; omega
    rw [show isTagW xs n = allW xs 0 (n - 1) from by unfold isTagW; simp [h1]]
    go_enter Tryd.func36, Tryd.ntmps36
    go_wp2_with (go_at_call 47; refine (impl_allWithin _ _ _ _ _ _ H.out).mono ?_; rintro e w' ⟨rfl, rfl⟩)
    go_ret
    exact ⟨rfl, rfl⟩
  · have h1' : decide ((xs.length : Int) ≤ 1000) = false := by simp; omega
    rw [show isTagW xs n = false from by unfold isTagW; simp [h1]]
    go_enter Tryd.func36, Tryd.ntmps36
    go_wp2_with fail
    go_ret
    exact ⟨rfl, rfl⟩

def notTagW (n : Int) (xs : List Int) : Bool := !isTagW xs n

theorem enters_wordsOk1 : ∀ args w, (callFunc 35 args).run Tryd.prog w = .ok (.enter 35 args) w := enters_of Tryd.func35 (by kernel_rfl) rfl

theorem impl_wordsOk1 (es : List Value) (xs : List Int) (w : World) (h : (eSl eInt).R w (Old w) es xs) (B : Nat) (n : Int) (hn : 1 ≤ n) (hn' : n ≤ 1048576) (hB : w.cell? ⟨B, 0, none⟩ = some (.int .i64 n)) :
    Calls Tryd.prog 35 #[es[0]!, .pointer (some ⟨B, 0, none⟩)] w fun e w' => e = .returned (.bool (notTagW n xs)) ∧ Below w.heap.size w w' := by
  obtain ⟨A, c, rfl, h⟩ := h
  have H := Lib.hid h; clear h
  show Calls Tryd.prog 35 #[.slice A xs.length c, .pointer (some ⟨B, 0, none⟩)] w _
  go_enter Tryd.func35, Tryd.ntmps35
  go_wp2_with (go_at_call 36; refine (impl_isTagWord _ _ _ _ _ H.out hn hn').mono ?_; rintro e w' ⟨rfl, rfl⟩)
  go_ret
  exact ⟨rfl, Below.refl _ _⟩

theorem impl_wordsOk (A : Option Addr) (c : Nat) (xs : List (List Int)) (n : Int) (w : World) (h : Sl (eSl eInt) w (Old w) A c xs) (hn : 1 ≤ n) (hn' : n ≤ 1048576) :
    Calls Tryd.prog 24 #[.slice A xs.length c, .int .i64 n] w fun e w' => e = .returned (.bool (!xs.any (notTagW n))) ∧ Below w.heap.size w w' := by
  have hW : Below w.heap.size w (w.alloc (.cells #[.int .i64 n] 2)) := (Below.refl _ _).alloc (Nat.le_refl _) _
  have hI := Lib.hid (ContainsFunc_Int64S (notTagW n) 35 #[.pointer (some ⟨w.heap.size, 0, none⟩)] A c xs _ (h.on hW) enters_wordsOk1 (fun W x es _ hb hR => impl_wordsOk1 es x W hR w.heap.size n hn hn' (by
    rw [hb.cell (p := ⟨w.heap.size, 0, none⟩) (by simp)]; simp [go_sem])))
  have HW := Lib.hid hW; clear hW h
  go_enter Tryd.func24, Tryd.ntmps24
  go_wp2_with (go_at_call 34; refine hI.out.mono ?_; rintro e w' ⟨rfl, hb⟩)
  go_ret
  exact ⟨rfl, below_trans HW.out hb⟩

def validCyc (xs : tCyclic) : Bool := withinB xs.length 1 400 && !xs.any (notTagW 2)

theorem impl_ValidCyclic (es : List Value) (x : tCyclic) (w : World) (h : eCyclic.R w (Old w) es x) :
    Calls Tryd.prog 12 #[.agg es.toArray] w fun e w' => e = .returned (.bool (validCyc x)) ∧ Below w.heap.size w w' := by
  obtain ⟨A, c, rfl, g⟩ := shape_Cyclic h
  clear h
  have hlen := g.len
  have hW : Below w.heap.size w (w.alloc (.cells #[.slice A x.length c] 24)) := (Below.refl _ _).alloc (Nat.le_refl _) _
  have hI := Lib.hid (impl_wordsOk A c x 2 _ (g.on hW) (by omega) (by omega))
  have HW := Lib.hid hW; clear hW g
  unfold validCyc
  cases h1 : withinB x.length 1 400
  · go_enter Tryd.func12, Tryd.ntmps12
    go_wp2_with (first | (go_at_call 23; refine (impl_size_Int64S _ _ _ _).mono ?_; rintro e w' ⟨rfl, rfl⟩) | (go_at_call 22; refine (impl_within _ _ _ _).mono ?_; rintro e w' ⟨rfl, rfl⟩; rw [h1]))
    go_ret
    exact ⟨by simp, HW.out⟩
  · go_enter Tryd.func12, Tryd.ntmps12
    go_wp2_with (first | (go_at_call 23; refine (impl_size_Int64S _ _ _ _).mono ?_; rintro e w' ⟨rfl, rfl⟩) | (go_at_call 22; refine (impl_within _ _ _ _).mono ?_; rintro e w' ⟨rfl, rfl⟩; rw [h1]) | (go_at_call 24; refine hI.out.mono ?_; rintro e w' ⟨rfl, hb⟩))
    go_ret
    exact ⟨by simp, below_trans HW.out hb⟩

theorem spec_l09Over (A : Option Addr) (c : Nat) (xs : List Int) (n : Int) (w : World) (h : Sl eInt w (Old w) A c xs) (hn : 1 ≤ n) (hn' : n ≤ 1048576) :
    Calls Tryd.prog 30 #[.slice A xs.length c, .int .i64 n] w fun e w' => e = .returned (.bool (isTagW xs n)) ∧ w = w' := by
  have hlen := h.len
  have H := Lib.hid h; clear h
  have HV : Hid (isTagW xs n = (decide (xs.length ≤ 1000) && !xs.any (outB 0 (n - 1)))) := rfl
  go_enter Tryd.func30, Tryd.ntmps30
  go_wp2
  go_loop [5] (fun i => ∃ k : Nat, k ≤ xs.length ∧ i = .int .i64 k ∧ Hid ((xs.take k).any (outB 0 (n - 1)) = false)) (fun i => xs.length - (intOf i).toNat)
  case atStart => exact ⟨0, Nat.zero_le _, rfl, rfl⟩
  case round =>
    obtain ⟨k, hk, rfl, HN⟩ := hrel
    by_cases hlt : k < xs.length
    · have hltz : (k : Int) < (xs.length : Int) := by omega
      obtain ⟨b, off, es, rfl, hb, ⟨rfl, _⟩, hc⟩ := H.out.at1 rfl hlt
      have d0 : w.cell? ⟨b, off + k, none⟩ = some (.int .i64 xs[k]) := hc _ rfl
      clear hc
      have HT : Hid (outB 0 (n - 1) xs[k] = true → xs.any (outB 0 (n - 1)) = true) := fun e => any_hit hlt e
      have HS : Hid (outB 0 (n - 1) xs[k] = false → (xs.take (k + 1)).any (outB 0 (n - 1)) = false) := fun e => any_step hlt HN.out e
      generalize xs[k] = y at d0 HT HS
      cases q1 : withinB y 0 (n - 1)
      · go_wp2_with (go_at_call 40; refine (spec_l00In _ _ _ _).mono ?_; rintro e w' ⟨rfl, rfl⟩; rw [q1])
        go_ret
        exact ⟨ret_bool (by rw [HV.out, HT.out (by unfold outB; rw [q1]; rfl)]; simp), rfl⟩
      · go_wp2_with (go_at_call 40; refine (spec_l00In _ _ _ _).mono ?_; rintro e w' ⟨rfl, rfl⟩; rw [q1])
        go_round
        case rel => exact ⟨k + 1, by omega, by go_num, HS.out (by unfold outB; rw [q1]; rfl)⟩
        case measure => simp [intOf]; omega
    · have hltz : ¬ (k : Int) < (xs.length : Int) := by omega
      obtain rfl : k = xs.length := by omega
      go_wp2
      go_ret
      have hn := HN.out
      rw [List.take_length] at hn
      exact ⟨ret_bool (by rw [HV.out, hn]; simp; omega), rfl⟩

theorem spec_l09Bits (A : Option Addr) (c : Nat) (xs : List Int) (w : World) (h : Sl eInt w (Old w) A c xs) :
    Calls Tryd.prog 19 #[.slice A xs.length c] w fun e w' => e = .returned (.bool (isTagW xs 2)) ∧ w = w' := by
  have H := Lib.hid h; clear h
  go_enter Tryd.func19, Tryd.ntmps19
  go_wp2_with (go_at_call 30; refine (spec_l09Over _ _ _ _ _ H.out (by omega) (by omega)).mono ?_; rintro e w' ⟨rfl, rfl⟩)
  go_ret
  exact ⟨rfl, rfl⟩

theorem spec_l09IsCyclic (B : Nat) (A : Option Addr) (c : Nat) (xs : tCyclic) (w : World) (hB : w.cell? ⟨B, 0, none⟩ = some (.slice A xs.length c)) (h : Sl (eSl eInt) w (Old w) A c xs) :
    Calls Tryd.prog 10 #[.pointer (some ⟨B, 0, none⟩)] w fun e w' => e = .returned (.bool (validCyc xs)) ∧ w = w' := by
  have hlen := h.len
  have H := Lib.hid h; clear h
  have HV : Hid (validCyc xs = (withinB xs.length 1 400 && !xs.any (notTagW 2))) := rfl
  go_enter Tryd.func10, Tryd.ntmps10
  go_wp2
  go_loop [3] (fun i => ∃ k : Nat, k ≤ xs.length ∧ i = .int .i64 k ∧ Hid ((xs.take k).any (notTagW 2) = false)) (fun i => xs.length - (intOf i).toNat)
  case atStart => exact ⟨0, Nat.zero_le _, rfl, rfl⟩
  case round =>
    obtain ⟨k, hk, rfl, HN⟩ := hrel
    by_cases hlt : k < xs.length
    · have hltz : (k : Int) < (xs.length : Int) := by omega
      obtain ⟨b, off, es, rfl, hb, ⟨A', c', rfl, g⟩, hc⟩ := H.out.at1 rfl hlt
      have d0 : w.cell? ⟨b, off + k, none⟩ = some (.slice A' xs[k].length c') := hc _ rfl
      clear hc
      have HG := Lib.hid (spec_l09Bits _ _ _ w g); clear g
      have HT : Hid (notTagW 2 xs[k] = true → xs.any (notTagW 2) = true) := fun e => any_hit hlt e
      have HS : Hid (notTagW 2 xs[k] = false → (xs.take (k + 1)).any (notTagW 2) = false) := fun e => any_step hlt HN.out e
      generalize xs[k] = y at d0 HT HS HG
      cases q1 : isTagW y 2
      · go_wp2_with (go_at_call 19; refine HG.out.mono ?_; rintro e w' ⟨rfl, rfl⟩; rw [q1])
        go_ret
        exact ⟨ret_bool (by rw [HV.out, HT.out (by unfold notTagW; rw [q1]; rfl)]; simp), rfl⟩
      · go_wp2_with (go_at_call 19; refine HG.out.mono ?_; rintro e w' ⟨rfl, rfl⟩; rw [q1])
        go_round
        case rel => exact ⟨k + 1, by omega, by go_num, HS.out (by unfold notTagW; rw [q1]; rfl)⟩
        case measure => simp [intOf]; omega
    · have hltz : ¬ (k : Int) < (xs.length : Int) := by omega
      obtain rfl : k = xs.length := by omega
      have hn := HN.out
      rw [List.take_length] at hn
      have HV2 := Lib.hid hn; clear hn
      by_cases h0 : 0 < xs.length
      · have h0' : decide ((0 : Int) < (xs.length : Int)) = true := decide_eq_true (by omega)
        go_wp2
        go_ret
        exact ⟨ret_bool (by rw [HV.out, HV2.out]; unfold withinB; rw [decide_eq_true (show (1 : Int) ≤ xs.length by omega)]; simp), rfl⟩
      · have h0' : decide ((0 : Int) < (xs.length : Int)) = false := decide_eq_false (by omega)
        go_wp2
        go_ret
        exact ⟨ret_bool (by rw [HV.out, HV2.out, withinB_false.2 (by omega)]; rfl), rfl⟩

theorem allW_mem {xs : List Int} {lo hi : Int} (h : allW xs lo hi = true) : ∀ x ∈ xs, lo ≤ x ∧ x ≤ hi := by
  intro x hx
  unfold allW outB at h
  simp at h
  exact withinB_true.1 (h x hx)

/-- The library's table that the decimal forms are made with. -/
def Glob (w : World) : Prop := Lib.TabIs Tryd.prog w "internal/strconv.uint64pow10" .u64 Lib.pow10Tab

theorem globNum : Tryd.prog.globalNamed "internal/strconv.uint64pow10" = some 5 := by kernel_rfl

theorem Held.glob {w0 w : World} {rs : List Res} (h : Held Nob w0 rs w) (hG : Glob w0) : Glob w := tab_below globNum hG h.below

theorem grow_below (w : World) (k : Nat) (os : Array Obj) : Below w.heap.size w (Go.Sort.grow (w.drewN k) os) :=
  ⟨rfl, rfl, rfl, by show w.heap.size ≤ (w.heap ++ os).size; rw [Array.size_append]; omega, fun b hb => Go.Sort.heap_grow_old (w.drewN k) os hb⟩

def shelf_M173_ren : Go.Shelf.Ren := ⟨fun | 173 => 68 | 246 => 79 | 283 => 86 | 284 => 87 | 285 => 88 | 286 => 89 | 129 => 92 | 317 => 91 | 318 => 93 | 319 => 94 | 320 => 95 | 337 => 96 | 338 => 97 | n => n, fun | 2 => 2 | 3 => 3 | 9 => 9 | 4 => 4 | 171 => 115 | 0 => 0 | 53 => 102 | 37 => 69 | 5 => 5 | 173 => 118 | 212 => 124 | 51 => 98 | 20 => 20 | 213 => 125 | 46 => 88 | 232 => 129 | 233 => 130 | n => n, fun | 17 => 5 | 18 => 6 | 19 => 7 | n => n⟩

theorem shelf_M173 : Go.Proofs.LaysM.n173 Tryd.prog shelf_M173_ren := {
  mixed := by kernel_rfl
  f129 := Tryd.func92.trans (congrArg some (by kernel_rfl))
  f173 := Tryd.func68.trans (congrArg some (by kernel_rfl))
  f246 := Tryd.func79.trans (congrArg some (by kernel_rfl))
  f283 := Tryd.func86.trans (congrArg some (by kernel_rfl))
  f284 := Tryd.func87.trans (congrArg some (by kernel_rfl))
  f285 := Tryd.func88.trans (congrArg some (by kernel_rfl))
  f286 := Tryd.func89.trans (congrArg some (by kernel_rfl))
  f317 := Tryd.func91.trans (congrArg some (by kernel_rfl))
  f318 := Tryd.func93.trans (congrArg some (by kernel_rfl))
  f319 := Tryd.func94.trans (congrArg some (by kernel_rfl))
  f320 := Tryd.func95.trans (congrArg some (by kernel_rfl))
  f337 := Tryd.func96.trans (congrArg some (by kernel_rfl))
  f338 := Tryd.func97.trans (congrArg some (by kernel_rfl))
  t0 := Tryd.underlying0
  a0 := Tryd.isAgg0
  z0 := Tryd.sizeOf0
  v0 := Tryd.zeroValue0
  t2 := Tryd.underlying2
  a2 := Tryd.isAgg2
  z2 := Tryd.sizeOf2
  v2 := Tryd.zeroValue2
  t3 := Tryd.underlying3
  a3 := Tryd.isAgg3
  z3 := Tryd.sizeOf3
  v3 := Tryd.zeroValue3
  t4 := Tryd.underlying4
  a4 := Tryd.isAgg4
  z4 := Tryd.sizeOf4
  v4 := Tryd.zeroValue4
  t5 := Tryd.underlying5
  a5 := Tryd.isAgg5
  z5 := Tryd.sizeOf5
  v5 := Tryd.zeroValue5
  t9 := Tryd.underlying9
  a9 := Tryd.isAgg9
  z9 := Tryd.sizeOf9
  v9 := Tryd.zeroValue9
  t20 := Tryd.underlying20
  a20 := Tryd.isAgg20
  z20 := Tryd.sizeOf20
  v20 := Tryd.zeroValue20
  t37 := Tryd.underlying69
  a37 := Tryd.isAgg69
  z37 := Tryd.sizeOf69
  v37 := Tryd.zeroValue69
  t46 := Tryd.underlying88
  a46 := Tryd.isAgg88
  z46 := Tryd.sizeOf88
  v46 := Tryd.zeroValue88
  t51 := Tryd.underlying98
  a51 := Tryd.isAgg98
  z51 := Tryd.sizeOf98
  v51 := Tryd.zeroValue98
  t53 := Tryd.underlying102
  a53 := Tryd.isAgg102
  z53 := Tryd.sizeOf102
  v53 := Tryd.zeroValue102
  t171 := Tryd.underlying115
  a171 := Tryd.isAgg115
  z171 := Tryd.sizeOf115
  v171 := Tryd.zeroValue115
  t173 := Tryd.underlying118
  a173 := Tryd.isAgg118
  z173 := Tryd.sizeOf118
  v173 := Tryd.zeroValue118
  t212 := Tryd.underlying124
  a212 := Tryd.isAgg124
  z212 := Tryd.sizeOf124
  v212 := Tryd.zeroValue124
  t213 := Tryd.underlying125
  a213 := Tryd.isAgg125
  z213 := Tryd.sizeOf125
  t232 := Tryd.underlying129
  a232 := Tryd.isAgg129
  z232 := Tryd.sizeOf129
  v232 := Tryd.zeroValue129
  t233 := Tryd.underlying130
  a233 := Tryd.isAgg130
  z233 := Tryd.sizeOf130
  v233 := Tryd.zeroValue130
  g17 := by kernel_rfl
  g18 := by kernel_rfl
  g19 := by kernel_rfl
  i0 := by kernel_rfl
  i2 := by kernel_rfl
  i3 := by kernel_rfl
  i4 := by kernel_rfl
  i5 := by kernel_rfl
  i9 := by kernel_rfl
  i20 := by kernel_rfl
  i37 := by kernel_rfl
  i46 := by kernel_rfl
  i51 := by kernel_rfl
  i53 := by kernel_rfl
  i171 := by kernel_rfl
  i173 := by kernel_rfl
  i212 := by kernel_rfl
  i232 := by kernel_rfl
  i233 := by kernel_rfl
  m17 := by kernel_rfl
  m18 := by kernel_rfl
  m19 := by kernel_rfl }

def shelf_156_ren : Go.Shelf.Ren := ⟨fun | 156 => 38 | 165 => 49 | 166 => 50 | 169 => 51 | 240 => 59 | 241 => 60 | 276 => 70 | 277 => 71 | n => n, fun | 31 => 39 | 9 => 9 | 3 => 3 | 4 => 4 | 0 => 0 | 20 => 20 | 72 => 71 | 76 => 75 | 70 => 68 | 37 => 69 | 75 => 74 | 127 => 86 | 164 => 91 | 5 => 5 | 80 => 77 | n => n, fun | n => n⟩

theorem shelf_156 : Go.Proofs.Lays.n156 Tryd.prog shelf_156_ren := {
  mixed := by kernel_rfl
  f156 := Tryd.func38.trans (congrArg some (by kernel_rfl))
  f165 := Tryd.func49.trans (congrArg some (by kernel_rfl))
  f166 := Tryd.func50.trans (congrArg some (by kernel_rfl))
  f169 := Tryd.func51.trans (congrArg some (by kernel_rfl))
  f240 := Tryd.func59.trans (congrArg some (by kernel_rfl))
  f241 := Tryd.func60.trans (congrArg some (by kernel_rfl))
  f276 := Tryd.func70.trans (congrArg some (by kernel_rfl))
  f277 := Tryd.func71.trans (congrArg some (by kernel_rfl))
  t0 := Tryd.underlying0
  a0 := Tryd.isAgg0
  z0 := Tryd.sizeOf0
  v0 := Tryd.zeroValue0
  t3 := Tryd.underlying3
  a3 := Tryd.isAgg3
  z3 := Tryd.sizeOf3
  v3 := Tryd.zeroValue3
  t4 := Tryd.underlying4
  a4 := Tryd.isAgg4
  z4 := Tryd.sizeOf4
  v4 := Tryd.zeroValue4
  t9 := Tryd.underlying9
  a9 := Tryd.isAgg9
  z9 := Tryd.sizeOf9
  v9 := Tryd.zeroValue9
  t20 := Tryd.underlying20
  a20 := Tryd.isAgg20
  z20 := Tryd.sizeOf20
  v20 := Tryd.zeroValue20
  t31 := Tryd.underlying39
  a31 := Tryd.isAgg39
  z31 := Tryd.sizeOf39
  v31 := Tryd.zeroValue39
  t37 := Tryd.underlying69
  a37 := Tryd.isAgg69
  z37 := Tryd.sizeOf69
  v37 := Tryd.zeroValue69
  t70 := Tryd.underlying68
  a70 := Tryd.isAgg68
  z70 := Tryd.sizeOf68
  v70 := Tryd.zeroValue68
  t72 := Tryd.underlying71
  a72 := Tryd.isAgg71
  z72 := Tryd.sizeOf71
  v72 := Tryd.zeroValue71
  t75 := Tryd.underlying74
  a75 := Tryd.isAgg74
  z75 := Tryd.sizeOf74
  v75 := Tryd.zeroValue74
  t76 := Tryd.underlying75
  a76 := Tryd.isAgg75
  z76 := Tryd.sizeOf75
  v76 := Tryd.zeroValue75
  t127 := Tryd.underlying86
  a127 := Tryd.isAgg86
  z127 := Tryd.sizeOf86
  v127 := Tryd.zeroValue86
  t164 := Tryd.underlying91
  a164 := Tryd.isAgg91
  z164 := Tryd.sizeOf91
  v164 := Tryd.zeroValue91 }

theorem shelf_X_Builder_Extra_156 : Builder.Extra Tryd.prog shelf_156_ren where
  sizeBuilder := by kernel_rfl
  liesBuilder := by kernel_rfl
  t5 := Tryd.underlying5
  a5 := Tryd.isAgg5
  z5 := Tryd.sizeOf5
  v5 := Tryd.zeroValue5
  infoByte := by kernel_rfl
  cellsByte := by kernel_rfl
  sizeByte := by kernel_rfl
  neB5 := by decide

theorem FormatInt_10 (a0 a1 : Int) (w : World) (hG : Glob w) (s0 : -9223372036854775808 ≤ a0 ∧ a0 ≤ 9223372036854775807) (s1 : a1 = 10) :
    Calls Tryd.prog 68 #[.int .i64 a0, .int .i64 a1] w fun e w' => e = .returned (.string (bs (Go.Lib.itoa a0))) ∧ Below w.heap.size w w' := by
  subst s1
  refine (show Calls Tryd.prog 68 #[.int .i64 a0, .int .i64 10] w _ from Any.strconv_FormatInt_10 shelf_M173 a0 s0.1 s0.2 w hG).mono ?_
  rintro e w' ⟨rfl, k, os, rfl⟩
  exact ⟨rfl, grow_below _ _ _⟩

theorem map_bs (xs : List (List UInt8)) : (xs.map bs).map (fun x : ByteArray => x.data.toList) = xs := by
  rw [List.map_map]
  exact (List.map_congr_left fun x _ => by simp [bs]).trans (List.map_id xs)

theorem Join_Str (A : Option Addr) (c : Nat) (a0 : List (List UInt8)) (a1 : List UInt8) (w : World) (h0 : Sl eTxt w (Old w) A c a0) (s0 : a0.length ≤ 1000000000) (s1 : (Go.Lib.join a0 a1).length ≤ 1000000000) :
    Calls Tryd.prog 38 #[.slice A a0.length c, .string (bs a1)] w fun e w' => e = .returned (.string (bs (Go.Lib.join a0 a1))) ∧ Below w.heap.size w w' := by
  by_cases hx : a0 = []
  · subst hx
    refine (show Calls Tryd.prog 38 #[.slice A 0 c, .string (bs a1)] w _ from Any.strings_Join_none shelf_156 shelf_X_Builder_Extra_156 A c (bs a1) w).mono ?_
    rintro e w' ⟨rfl, rfl⟩
    exact ⟨rfl, Below.refl _ _⟩
  · obtain ⟨b, off, rfl, hb, hc⟩ := h0.2.2 hx
    have hl : a0.length = (a0.map bs).length := (List.length_map _).symm
    have hj : Go.Lib.join ((a0.map bs).map (·.data.toList)) (bs a1).data.toList = Go.Lib.join a0 a1 := by rw [map_bs]
    rw [hl]
    refine (show Calls Tryd.prog 38 #[.slice (some ⟨b, off, none⟩) (a0.map bs).length c, .string (bs a1)] w _ from Any.strings_Join shelf_156 shelf_X_Builder_Extra_156 b off c (a0.map bs) (bs a1) w ?_ hb (by rw [← hl]; omega) (by rw [← hl]; exact h0.1) (by rw [hj]; omega)).mono ?_
    · intro j x hjx
      rw [List.getElem?_map, Option.map_eq_some_iff] at hjx
      obtain ⟨y, hy, rfl⟩ := hjx
      obtain ⟨es, ⟨rfl, _⟩, h2⟩ := hc j y hy
      have := h2 0 _ rfl
      rwa [show off + j * eTxt.size + 0 = off + j from by simp [eTxt]] at this
    · rintro e w' ⟨rfl, h2⟩
      rw [hj]
      exact ⟨rfl, h2⟩

theorem nDigits_le (k : Nat) : ∀ n : Nat, n < 10 ^ (k + 1) → Go.Lib.nDigits n ≤ k + 1 := by
  induction k with
  | zero => intro n h; rw [Go.Lib.nDigits_small (by simpa using h)]; omega
  | succ k ih =>
    intro n h
    by_cases h1 : n < 10
    · rw [Go.Lib.nDigits_small h1]; omega
    · rw [Go.Lib.nDigits_big h1]; have := ih (n / 10) (by rw [Nat.pow_succ] at h; omega); omega

theorem itoa_len {n : Int} (h : -9223372036854775808 ≤ n ∧ n ≤ 9223372036854775807) : 1 ≤ (Go.Lib.itoa n).length ∧ (Go.Lib.itoa n).length ≤ 20 := by
  unfold Go.Lib.itoa
  split
  · have h1 := nDigits_le 18 n.natAbs (by omega)
    have h2 := Go.Lib.nDigits_pos n.natAbs
    rw [List.length_cons, Go.Lib.decDigits_length]; omega
  · have h1 := nDigits_le 18 n.toNat (by omega)
    have h2 := Go.Lib.nDigits_pos n.toNat
    rw [Go.Lib.decDigits_length]; omega

theorem join_len (B : Nat) (sep : List UInt8) : ∀ xs : List (List UInt8), (∀ x ∈ xs, x.length ≤ B) → (Go.Lib.join xs sep).length ≤ xs.length * (B + sep.length)
  | [], _ => by simp [Go.Lib.join_nil]
  | x :: r, h => by
    have h1 := h x (by simp)
    have h2 : Go.Lib.lens r ≤ r.length * B := by
      have h3 : ∀ y ∈ r, y.length ≤ B := fun y hy => h y (by simp [hy])
      clear h
      induction r with
      | nil => simp [Go.Lib.lens]
      | cons y r ih =>
        have h4 := ih fun z hz => h3 z (by simp [hz])
        have h5 := h3 y (by simp)
        simp only [Go.Lib.lens, List.map_cons, List.sum_cons, List.length_cons, Nat.succ_mul] at h4 ⊢
        omega
    rw [Go.Lib.join_length, List.length_cons, Nat.succ_mul]
    simp only [Go.Lib.lens, List.map_cons, List.sum_cons] at h2 ⊢
    have h6 : sep.length * r.length = r.length * sep.length := Nat.mul_comm _ _
    have h7 : r.length * (B + sep.length) = r.length * B + r.length * sep.length := Nat.mul_add _ _ _
    omega

/-- Numbers in decimal, with something between them. -/
def decs (l : List Int) (b : List UInt8) : List UInt8 := Go.Lib.join (l.map Go.Lib.itoa) b

theorem Sl.i64 {w : World} {S : Nat → Prop} {A : Option Addr} {c : Nat} {xs : List Int} (h : Sl eInt w S A c xs) : ∀ x ∈ xs, -9223372036854775808 ≤ x ∧ x ≤ 9223372036854775807 := by
  intro x hx
  obtain ⟨i, hi⟩ := List.mem_iff_getElem?.1 hx
  obtain ⟨b, off, _, _, hc⟩ := h.2.2 (fun e => by rw [e] at hx; cases hx)
  obtain ⟨es, ⟨_, h1⟩, _⟩ := hc i x hi
  exact h1

theorem map_itoa_len {l : List Int} (h : ∀ x ∈ l, -9223372036854775808 ≤ x ∧ x ≤ 9223372036854775807) : ∀ y ∈ l.map Go.Lib.itoa, y.length ≤ 20 := by
  intro y hy
  obtain ⟨x, hx, rfl⟩ := List.mem_map.1 hy
  exact (itoa_len (h x hx)).2

theorem decs_len {l : List Int} {b : List UInt8} (h : ∀ x ∈ l, -9223372036854775808 ≤ x ∧ x ≤ 9223372036854775807) (hb : b.length ≤ 10) : (decs l b).length ≤ 30 * l.length := by
  have h1 := join_len 20 b (l.map Go.Lib.itoa) (map_itoa_len h)
  rw [List.length_map] at h1
  have h2 : l.length * (20 + b.length) ≤ l.length * 30 := Nat.mul_le_mul_left _ (by omega)
  unfold decs
  omega

theorem join_take_len {α : Type} {f : α → List UInt8} {l : List α} {sep : List UInt8} {B : Nat} (h : ∀ x ∈ l, (f x).length + sep.length ≤ B) (k : Nat) : (Go.Lib.join ((l.take k).map f) sep).length ≤ B * l.length := by
  by_cases hn : l = []
  · subst hn; simp [Go.Lib.join_nil]
  · obtain ⟨x0, hx0⟩ := List.exists_mem_of_ne_nil l hn
    have hs := h x0 hx0
    have h1 := join_len (B - sep.length) sep ((l.take k).map f) (by
      intro y hy
      obtain ⟨x, hx, rfl⟩ := List.mem_map.1 hy
      have := h x (List.mem_of_mem_take hx)
      omega)
    rw [List.length_map, List.length_take, show B - sep.length + sep.length = B from by omega] at h1
    have h2 : min k l.length * B ≤ l.length * B := Nat.mul_le_mul_right _ (by omega)
    rw [Nat.mul_comm B]
    omega

theorem decs_take_len {l : List Int} {b : List UInt8} (h : ∀ x ∈ l, -9223372036854775808 ≤ x ∧ x ≤ 9223372036854775807) (hb : b.length ≤ 10) (k : Nat) : (Go.Lib.join ((l.take k).map Go.Lib.itoa) b).length ≤ 30 * l.length :=
  join_take_len (fun x hx => by have := itoa_len (h x hx); omega) k

theorem ne_nil {α : Type} {l : List α} (h : ¬ l.length = 0) : ¬ l = [] := fun e => h (by rw [e]; rfl)

theorem eq_nil {α : Type} {l : List α} (h : l.length = 0) : l = [] := List.eq_nil_of_length_eq_zero h

set_option maxRecDepth 100000 in
set_option maxHeartbeats 4000000 in
theorem impl_Decimal (a0 : Int) (w : World) (hG : Glob w) (s0 : -9223372036854775808 ≤ a0 ∧ a0 ≤ 9223372036854775807) :
    Calls Tryd.prog 57 #[.int .i64 a0] w fun e w' => e = .returned (.string (bs (Go.Lib.itoa a0))) ∧ Below w.heap.size w w' := by
  have HH1 := Held.start Nob w
  refine enter (n := 5) Tryd.func57 rfl rfl rfl fun a_2 HE3 => ?_
  refine wp_seq ?_
  refine rg ?_
  refine pl_x HE3 HH1 (wt0 rfl) (x_assign rfl) rfl rfl fun a_4 HE5 => ?_
  refine wpList_nil ?_
  clear a_2 HE3
  refine nrm ?_
  refine wp_seq ?_
  refine rg ?_
  refine pl_x HE5 HH1 (wt0 rfl) (x_move rfl) rfl rfl fun a_6 HE7 => ?_
  refine pl fun K_8 hK9 => ?_
  refine st_call HE7 (wt0 rfl) rfl rfl rfl en_68 rfl rfl (FormatInt_10 a0 10 _ (HH1.glob hG) (by omega) (by rfl)) fun e w' hr => ?_
  have hAr21_0 := itoa_len (n := a0) (by omega)
  obtain ⟨rfl, hbr21⟩ := hr
  have HH10 := HH1.on hbr21
  refine ⟨_, rfl, fun a_11 HE12 => hK9 _ _ ?_⟩
  refine pl_x HE12 HH10 (wt0 rfl) (x_assign rfl) rfl rfl fun a_13 HE14 => ?_
  refine wpList_nil ?_
  clear a_4 HE5 HH1 a_6 HE7 a_11 HE12 hK9 K_8
  refine nrm ?_
  refine wp_ret ?_
  refine ret1 HE14 rfl (rv_tmp rfl) ?_
  have hF : (Go.Lib.itoa a0) = (Go.Lib.itoa a0) := by
    first | rfl | (simp [Go.Lib.itoa]; done) | (simp [Go.Lib.itoa]; omega) | grind [Go.Lib.itoa]
  exact ⟨by first | (rw [hF] <;> rfl) | rfl | (rw [hF]; simp only [Ending.returned.injEq, Value.slice.injEq, true_and, and_true]; first | omega | (simp; done)) | (rw [hF]; simp; omega), HH10.below⟩

set_option maxRecDepth 100000 in
set_option maxHeartbeats 4000000 in
theorem impl_decimals (A0 : Option Addr) (c0 : Nat) (a0 : (List Int)) (a1 : List UInt8) (w : World) (h0 : Sl eInt w (Old w) A0 c0 a0) (hG : Glob w) (s0 : a0.length ≤ 1000000) (s1 : a1.length ≤ 10) :
    Calls Tryd.prog 48 #[.slice A0 a0.length c0, .string (bs a1)] w fun e w' => e = .returned (.string (bs (decs a0 a1))) ∧ Below w.heap.size w w' := by
  have l0 := h0.len
  have HH1 := Held.start Nob w
  refine enter (n := 24) Tryd.func48 rfl rfl rfl fun a_2 HE3 => ?_
  refine wp_seq ?_
  refine rg ?_
  refine pl_x HE3 HH1 (wt0 rfl) (x_assign rfl) rfl rfl fun a_4 HE5 => ?_
  refine wpList_nil ?_
  clear a_2 HE3
  refine nrm ?_
  refine wp_seq ?_
  refine rg ?_
  refine pl fun K_6 hK7 => ?_
  refine st_lit (m := 0) (cs := []) (e := 9) HE5 HH1 (run_lit ts_39 HE5 (vs := []) rfl rfl (by simp [Value.cells]) rfl (by decide)) (wt0 rfl) rfl rfl fun q21 a_8 w' HE9 HH10 => hK7 _ _ ?_
  refine pl_x HE9 HH10 (wt0 rfl) (x_assign rfl) rfl rfl fun a_11 HE12 => ?_
  refine wpList_nil ?_
  clear a_4 HE5 HH1 a_8 HE9 hK7 K_6
  refine nrm ?_
  refine wp_seq ?_
  refine wp_seq ?_
  refine rg ?_
  refine pl_x HE12 HH10 (wt0 rfl) (x_move rfl) rfl rfl fun a_13 HE14 => ?_
  refine pl_x HE14 HH10 (wt0 rfl) (x_len Tryd.underlying41 rfl) rfl rfl fun a_15 HE16 => ?_
  refine pl_x HE16 HH10 (wt0 rfl) (x_move rfl) rfl rfl fun a_17 HE18 => ?_
  refine wpList_nil ?_
  clear a_11 HE12 a_13 HE14 a_15 HE16
  refine nrm ?_
  refine wp_block ?_
  have HH19 := Held.vecFlat (E := eTxt) (xs := []) (css := []) HH10 rfl (Nat.zero_le _) (fun i x hx => by simp at hx)
  refine lp (fun m a w' => ∃ (k : Nat) (A_5 : Option Addr) (c_5 : Nat) (S_5 : Nat → Prop), m = a0.length - k ∧ Env 24 [(5, .slice A_5 (List.length ((a0.take k).map Go.Lib.itoa)) c_5), (11, .int .i64 (k : Int)), (1, .string (bs a1)), (9, .slice A0 (a0.length) c0), (10, .int .i64 ((a0.length : Int)))] a ∧ Held Nob w [rVec eTxt 9 S_5 A_5 c_5 ((a0.take k).map Go.Lib.itoa)] w' ∧ (k ≤ a0.length)) (a0.length - (0)) ?_ ?_
  · have E22 : (a0.take 0).map Go.Lib.itoa = ([] : List (List UInt8)) := by
      first | rfl | simp
    exact ⟨0, (some ⟨q21, 0, none⟩), (List.length (α := (List UInt8)) []), (fun b => b = q21), rfl, HE18.sub ⟨(by rw [E22]; rfl), (lkI rfl (by first | rfl | omega | (simp []; done))), rfl, rfl, rfl, trivial⟩, ((HH19.sel [0] (by decide) rfl).to (by first | rfl | (rw [E22]; done) | (rw [E22]; rfl) | (simp only [E22]; done) | (simp only [E22]; rfl) | (rw [E22]; simp only [List.length_set]; done))), (by first | omega | assumption | (simp; done) | simp_all)⟩
  · rintro m a_20 w' ⟨k, A_5, c_5, S_5, rfl, HE21, HH22, p23_0⟩
    have ol : ((a0.take k).map Go.Lib.itoa).length ≤ 1000000 := by rw [List.length_map, List.length_take]; omega
    have oj := decs_take_len (Sl.i64 h0) (b := a1) (by omega) k
    refine wp_seq ?_
    refine rg ?_
    refine pl_x HE21 HH22 (wt0 rfl) (x_lss rfl rfl) rfl rfl fun a_23 HE24 => ?_
    refine wpList_nil ?_
    clear HH10 a_17 HE18 HH19 a_20 HE21
    refine nrm ?_
    refine wp_seq ?_
    refine cnd_d HE24 rfl (fun hc24 => ?_) (fun hc24 => ?_)
    · refine wp_skip ?_
      refine nrm ?_
      refine wp_seq ?_
      refine wp_block ?_
      refine wp_seq ?_
      refine rg ?_
      have ke25 : k < a0.length := by omega
      obtain ⟨be25, fe25, ese25, Ae25, Re25, De25⟩ := el_old h0 ke25
      obtain ⟨e25, xe25⟩ : ∃ x_, x_ = a0[k] := ⟨_, rfl⟩
      rw [← xe25] at Re25
      have Qe25 := Re25
      obtain ⟨rfl, ie25⟩ := Re25
      have je25 := ie25; unfold I64 at je25
      refine pl_x HE24 HH22 (wt0 rfl) (x_indexAddr ts_41 rfl rfl Ae25 rfl ke25) rfl rfl fun a_25 HE26 => ?_
      refine pl_x HE26 HH22 (wt0 rfl) (x_load1 tv_2 rfl (c_old (De25 0 _ rfl))) rfl rfl fun a_27 HE28 => ?_
      refine pl_x HE28 HH22 (wt0 rfl) (x_assign rfl) rfl rfl fun a_29 HE30 => ?_
      refine wpList_nil ?_
      clear a_23 HE24 a_25 HE26 a_27 HE28
      refine nrm ?_
      refine rg ?_
      refine pl_x HE30 HH22 (wt0 rfl) (x_move rfl) rfl rfl fun a_31 HE32 => ?_
      refine pl_x HE32 HH22 (wt0 rfl) (x_move rfl) rfl rfl fun a_33 HE34 => ?_
      refine pl fun K_35 hK36 => ?_
      refine st_call HE34 (wt0 rfl) rfl rfl rfl en_57 rfl rfl (impl_Decimal e25 _ (HH22.glob hG) (by omega)) fun e w' hr => ?_
      have hAr26_0 := itoa_len (n := e25) (by omega)
      obtain ⟨rfl, hbr26⟩ := hr
      have HH37 := HH22.on hbr26
      refine ⟨_, rfl, fun a_38 HE39 => hK36 _ _ ?_⟩
      refine pl fun K_40 hK41 => ?_
      refine st_lit (m := 1) (cs := [.string (bs (Go.Lib.itoa e25))]) (e := 9) HE39 HH37 (run_lit ts_39 HE39 (vs := [.string (bs (Go.Lib.itoa e25))]) rfl rfl (by simp [Value.cells]) rfl (by decide)) (wt0 rfl) rfl rfl fun q27 a_42 w' HE43 HH44 => hK41 _ _ ?_
      refine pl fun K_45 hK46 => ?_
      refine st_app1F (Go.Lib.itoa e25) HE43 HH44 ts_39 [1, 0] (by decide) rfl (fun _ => (oS (by first | omega | (simp only [List.length_append, List.length_cons, List.length_nil]; omega) | (simp; omega)))) rfl rfl (by simp [Value.oneCell']) (by unfold maxLen; first | omega | (simp; done) | (simp; omega)) (by first | omega | (simp; done) | (simp; omega)) (wt0 rfl) rfl fun A28 c29 S30 a_47 w' HE48 HH49 => hK46 _ _ ?_
      refine pl_x HE48 HH49 (wt0 rfl) (x_assign rfl) rfl rfl fun a_50 HE51 => ?_
      refine wpList_nil ?_
      clear a_29 HE30 a_31 HE32 HH22 a_33 HE34 K_35 hK36 a_38 HE39 HH37 K_40 hK41 a_42 HE43 HH44 a_47 HE48 hK46 K_45
      refine blk_n ?_
      refine nrm ?_
      refine rg ?_
      refine pl_x HE51 HH49 (wt0 rfl) (x_add rfl rfl (by exact ⟨by omega, by omega⟩)) rfl rfl fun a_52 HE53 => ?_
      refine pl_x HE53 HH49 (wt0 rfl) (x_move rfl) rfl rfl fun a_54 HE55 => ?_
      refine wpList_nil ?_
      clear a_50 HE51 a_52 HE53
      have E31 : (a0.take (k + 1)).map Go.Lib.itoa = ((a0.take k).map Go.Lib.itoa ++ [(Go.Lib.itoa e25)]) := by
        rw [List.take_succ_eq_append_getElem (by omega), List.map_append, ← xe25]; rfl
      exact nrm ⟨a0.length - (k + 1), (by omega), k + 1, A28, c29, S30, rfl, HE55.sub ⟨(by rw [E31]; rfl), (lkI rfl (by first | rfl | omega | (simp [p23_0, hc24, xe25]; done))), rfl, rfl, rfl, trivial⟩, ((HH49.sel [0] (by decide) rfl).to (by first | rfl | (rw [E31]; done) | (rw [E31]; rfl) | (simp only [E31]; done) | (simp only [E31]; rfl) | (rw [E31]; simp only [List.length_set]; done))), (by first | omega | assumption | (simp; done) | simp_all)⟩
    · refine wp_exit ?_
      refine (thn_exit (thn_exit (blk_hit ?_)))
      refine nrm ?_
      refine wp_seq ?_
      refine rg ?_
      refine pl_x HE24 HH22 (wt0 rfl) (x_move rfl) rfl rfl fun a_56 HE57 => ?_
      refine pl_x HE57 HH22 (wt0 rfl) (x_move rfl) rfl rfl fun a_58 HE59 => ?_
      refine pl fun K_60 hK61 => ?_
      refine st_call HE59 (wt0 rfl) rfl rfl rfl en_38 rfl rfl (Join_Str _ _ ((a0.take k).map Go.Lib.itoa) a1 _ (HH22.vecSl (i := 0) rfl) (by first | omega | (simp; done)) (by first | omega | (simp [Go.Lib.join, List.intercalate]; omega))) fun e w' hr => ?_
      have hAr32_0 := (by first | omega | (simp [Go.Lib.join, List.intercalate]; omega) : (Go.Lib.join ((a0.take k).map Go.Lib.itoa) a1).length ≤ 1000000000)
      obtain ⟨rfl, hbr32⟩ := hr
      have HH62 := HH22.on hbr32
      refine ⟨_, rfl, fun a_63 HE64 => hK61 _ _ ?_⟩
      refine pl_x HE64 HH62 (wt0 rfl) (x_assign rfl) rfl rfl fun a_65 HE66 => ?_
      refine wpList_nil ?_
      clear a_23 HE24 a_56 HE57 HH22 a_58 HE59 a_63 HE64 hK61 K_60
      refine nrm ?_
      refine wp_ret ?_
      refine ret1 HE66 rfl (rv_tmp rfl) ?_
      have hF : (decs a0 a1) = (Go.Lib.join ((a0.take k).map Go.Lib.itoa) a1) := by
        unfold decs; rw [List.take_of_length_le (by omega)]
      exact ⟨by first | (rw [hF] <;> rfl) | rfl | (rw [hF]; simp only [Ending.returned.injEq, Value.slice.injEq, true_and, and_true]; first | omega | (simp; done)) | (rw [hF]; simp; omega), HH62.below⟩

def lets (w : List Int) : Prop := w.length ≤ 1000 ∧ ∀ x ∈ w, 0 ≤ x ∧ x ≤ 1000

def dotT (w : List Int) : List UInt8 := if w = [] then [45] else decs w [46]

def wordsT (l : List (List Int)) : List UInt8 := Go.Lib.join (l.map dotT) [44]

def cyclicText (c : tCyclic) : List UInt8 := if validCyc c = true then wordsT c else []

theorem dotT_len {w : List Int} (h : lets w) : (dotT w).length ≤ 30001 := by
  unfold dotT
  split
  · simp
  · have := decs_len (l := w) (b := [46]) (fun x hx => by have := h.2 x hx; omega) (by simp)
    have := h.1
    omega

theorem words_take_len {l : List (List Int)} (h : ∀ x ∈ l, lets x) (k : Nat) : (Go.Lib.join ((l.take k).map dotT) [44]).length ≤ 30002 * l.length :=
  join_take_len (fun x hx => by have := dotT_len (h x hx); simp only [List.length_cons, List.length_nil]; omega) k

theorem wordsT_len {l : List (List Int)} (h : ∀ x ∈ l, lets x) (hl : l.length ≤ 400) : (wordsT l).length ≤ 12001000 := by
  have := words_take_len h l.length
  rw [List.take_length] at this
  unfold wordsT
  omega

theorem isTagW_lets {w : List Int} {n : Int} (h : isTagW w n = true) (hn : n ≤ 1000) : lets w := by
  unfold isTagW at h
  simp only [Bool.and_eq_true, decide_eq_true_eq] at h
  exact ⟨h.1, fun x hx => by have := allW_mem h.2 x hx; omega⟩

theorem validCyc_ok {c : tCyclic} (h : validCyc c = true) : c.length ≤ 400 ∧ ∀ w ∈ c, lets w := by
  unfold validCyc at h
  simp only [Bool.and_eq_true, Bool.not_eq_true', List.any_eq_false] at h
  refine ⟨by have := withinB_true.1 h.1; omega, fun w hw => isTagW_lets (n := 2) (by have := h.2 w hw; unfold notTagW at this; simpa using this) (by omega)⟩

set_option maxRecDepth 100000 in
set_option maxHeartbeats 4000000 in
theorem impl_dotted (A0 : Option Addr) (c0 : Nat) (a0 : (List Int)) (w : World) (h0 : Sl eInt w (Old w) A0 c0 a0) (hG : Glob w) (s0 : lets a0) :
    Calls Tryd.prog 37 #[.slice A0 a0.length c0] w fun e w' => e = .returned (.string (bs (dotT a0))) ∧ Below w.heap.size w w' := by
  have l0 := h0.len
  have s1 := s0.1
  have s2 := s0.2
  have s3 : ∀ x ∈ a0, -9223372036854775808 ≤ x ∧ x ≤ 9223372036854775807 := fun x hx => by have := s2 x hx; omega
  have HH1 := Held.start Nob w
  refine enter (n := 8) Tryd.func37 rfl rfl rfl fun a_2 HE3 => ?_
  refine wp_seq ?_
  refine rg ?_
  refine pl_x HE3 HH1 (wt0 rfl) (x_assign rfl) rfl rfl fun a_4 HE5 => ?_
  refine wpList_nil ?_
  clear a_2 HE3
  refine nrm ?_
  refine wp_seq ?_
  refine wp_seq ?_
  refine rg ?_
  refine pl_x HE5 HH1 (wt0 rfl) (x_move rfl) rfl rfl fun a_6 HE7 => ?_
  refine pl_x HE7 HH1 (wt0 rfl) (x_len Tryd.underlying41 rfl) rfl rfl fun a_8 HE9 => ?_
  refine pl_x HE9 HH1 (wt0 rfl) (x_eql rfl rfl) rfl rfl fun a_10 HE11 => ?_
  refine wpList_nil ?_
  clear a_4 HE5 a_6 HE7 a_8 HE9
  refine nrm ?_
  refine cnd_e HE11 rfl (fun hc21 => ?_) (fun hc21 => ?_)
  · refine wp_seq ?_
    refine rg ?_
    refine pl_x HE11 HH1 (wt0 rfl) (x_assign rfl) rfl rfl fun a_12 HE13 => ?_
    refine wpList_nil ?_
    clear a_10 HE11
    refine nrm ?_
    refine wp_ret ?_
    refine (thn_ret ?_)
    refine ret1 HE13 rfl (rv_tmp rfl) ?_
    have hF : (dotT a0) = [45] := by
      unfold dotT; first | (rw [if_pos (eq_nil (by omega))]; done) | (rw [if_neg (ne_nil (by omega))]; done) | (rw [if_neg (ne_nil (by omega))]; unfold decs; rw [List.take_of_length_le (by omega)])
    exact ⟨by first | (rw [hF] <;> rfl) | rfl | (rw [hF]; simp only [Ending.returned.injEq, Value.slice.injEq, true_and, and_true]; first | omega | (simp; done)) | (rw [hF]; simp; omega), HH1.below⟩
  · refine wp_skip ?_
    refine nrm ?_
    refine wp_seq ?_
    refine rg ?_
    refine pl_x HE11 HH1 (wt0 rfl) (x_move rfl) rfl rfl fun a_14 HE15 => ?_
    refine pl fun K_16 hK17 => ?_
    refine st_call HE15 (wt0 rfl) rfl rfl rfl en_48 rfl rfl (impl_decimals _ _ a0 ([46]) _ (HH1.old h0) (HH1.glob hG) (by first | omega | (simp; done) | (simp; omega)) (by first | omega | (simp; done))) fun e w' hr => ?_
    have hAr22_0 := decs_len (l := a0) (b := ([46])) (by first | assumption | exact Sl.i64 (by assumption) | (intro x hx; simp at hx; omega)) (by simp)
    obtain ⟨rfl, hbr22⟩ := hr
    have HH18 := HH1.on hbr22
    refine ⟨_, rfl, fun a_19 HE20 => hK17 _ _ ?_⟩
    refine pl_x HE20 HH18 (wt0 rfl) (x_assign rfl) rfl rfl fun a_21 HE22 => ?_
    refine wpList_nil ?_
    clear a_10 HE11 HH1 a_14 HE15 a_19 HE20 hK17 K_16
    refine nrm ?_
    refine wp_ret ?_
    refine ret1 HE22 rfl (rv_tmp rfl) ?_
    have hF : (dotT a0) = (decs a0 ([46])) := by
      unfold dotT; first | (rw [if_pos (eq_nil (by omega))]; done) | (rw [if_neg (ne_nil (by omega))]; done) | (rw [if_neg (ne_nil (by omega))]; unfold decs; rw [List.take_of_length_le (by omega)])
    exact ⟨by first | (rw [hF] <;> rfl) | rfl | (rw [hF]; simp only [Ending.returned.injEq, Value.slice.injEq, true_and, and_true]; first | omega | (simp; done)) | (rw [hF]; simp; omega), HH18.below⟩

set_option maxRecDepth 100000 in
set_option maxHeartbeats 4000000 in
theorem impl_wordsText (A0 : Option Addr) (c0 : Nat) (a0 : (List (List Int))) (w : World) (h0 : Sl (eSl eInt) w (Old w) A0 c0 a0) (hG : Glob w) (s0 : a0.length ≤ 400) (s1 : ∀ w ∈ a0, lets w) :
    Calls Tryd.prog 25 #[.slice A0 a0.length c0] w fun e w' => e = .returned (.string (bs (wordsT a0))) ∧ Below w.heap.size w w' := by
  have l0 := h0.len
  have HH1 := Held.start Nob w
  refine enter (n := 21) Tryd.func25 rfl rfl rfl fun a_2 HE3 => ?_
  refine wp_seq ?_
  refine rg ?_
  refine pl_x HE3 HH1 (wt0 rfl) (x_assign rfl) rfl rfl fun a_4 HE5 => ?_
  refine wpList_nil ?_
  clear a_2 HE3
  refine nrm ?_
  refine wp_seq ?_
  refine rg ?_
  refine pl fun K_6 hK7 => ?_
  refine st_lit (m := 0) (cs := []) (e := 9) HE5 HH1 (run_lit ts_39 HE5 (vs := []) rfl rfl (by simp [Value.cells]) rfl (by decide)) (wt0 rfl) rfl rfl fun q21 a_8 w' HE9 HH10 => hK7 _ _ ?_
  refine pl_x HE9 HH10 (wt0 rfl) (x_assign rfl) rfl rfl fun a_11 HE12 => ?_
  refine wpList_nil ?_
  clear a_4 HE5 HH1 a_8 HE9 hK7 K_6
  refine nrm ?_
  refine wp_seq ?_
  refine wp_seq ?_
  refine rg ?_
  refine pl_x HE12 HH10 (wt0 rfl) (x_move rfl) rfl rfl fun a_13 HE14 => ?_
  refine pl_x HE14 HH10 (wt0 rfl) (x_len Tryd.underlying22 rfl) rfl rfl fun a_15 HE16 => ?_
  refine pl_x HE16 HH10 (wt0 rfl) (x_move rfl) rfl rfl fun a_17 HE18 => ?_
  refine wpList_nil ?_
  clear a_11 HE12 a_13 HE14 a_15 HE16
  refine nrm ?_
  refine wp_block ?_
  have HH19 := Held.vecFlat (E := eTxt) (xs := []) (css := []) HH10 rfl (Nat.zero_le _) (fun i x hx => by simp at hx)
  refine lp (fun m a w' => ∃ (k : Nat) (A_3 : Option Addr) (c_3 : Nat) (S_3 : Nat → Prop), m = a0.length - k ∧ Env 21 [(3, .slice A_3 (List.length ((a0.take k).map dotT)) c_3), (9, .int .i64 (k : Int)), (7, .slice A0 (a0.length) c0), (8, .int .i64 ((a0.length : Int)))] a ∧ Held Nob w [rVec eTxt 9 S_3 A_3 c_3 ((a0.take k).map dotT)] w' ∧ (k ≤ a0.length)) (a0.length - (0)) ?_ ?_
  · have E22 : (a0.take 0).map dotT = ([] : List (List UInt8)) := by
      first | rfl | simp
    exact ⟨0, (some ⟨q21, 0, none⟩), (List.length (α := (List UInt8)) []), (fun b => b = q21), rfl, HE18.sub ⟨(by rw [E22]; rfl), (lkI rfl (by first | rfl | omega | (simp []; done))), rfl, rfl, trivial⟩, ((HH19.sel [0] (by decide) rfl).to (by first | rfl | (rw [E22]; done) | (rw [E22]; rfl) | (simp only [E22]; done) | (simp only [E22]; rfl) | (rw [E22]; simp only [List.length_set]; done))), (by first | omega | assumption | (simp; done) | simp_all)⟩
  · rintro m a_20 w' ⟨k, A_3, c_3, S_3, rfl, HE21, HH22, p23_0⟩
    have ol : ((a0.take k).map dotT).length ≤ 400 := by rw [List.length_map, List.length_take]; omega
    have oj := words_take_len s1 k
    refine wp_seq ?_
    refine rg ?_
    refine pl_x HE21 HH22 (wt0 rfl) (x_lss rfl rfl) rfl rfl fun a_23 HE24 => ?_
    refine wpList_nil ?_
    clear HH10 a_17 HE18 HH19 a_20 HE21
    refine nrm ?_
    refine wp_seq ?_
    refine cnd_d HE24 rfl (fun hc24 => ?_) (fun hc24 => ?_)
    · refine wp_skip ?_
      refine nrm ?_
      refine wp_seq ?_
      refine wp_block ?_
      refine wp_seq ?_
      refine rg ?_
      have ke25 : k < a0.length := by omega
      obtain ⟨be25, fe25, ese25, Ae25, Re25, De25⟩ := el_old h0 ke25
      obtain ⟨e25, xe25⟩ : ∃ x_, x_ = a0[k] := ⟨_, rfl⟩
      rw [← xe25] at Re25
      have Qe25 := Re25
      obtain ⟨Ae25_0, ce25_0, rfl, ge25_0⟩ := Re25
      have le25_0 := ge25_0.len
      have fe25 := s1 e25 (by rw [xe25]; exact List.getElem_mem _)
      refine pl_x HE24 HH22 (wt0 rfl) (x_indexAddr ts_22 rfl rfl Ae25 rfl ke25) rfl rfl fun a_25 HE26 => ?_
      refine pl_x HE26 HH22 (wt0 rfl) (x_load1 tv_41 rfl (c_old (De25 0 _ rfl))) rfl rfl fun a_27 HE28 => ?_
      refine pl_x HE28 HH22 (wt0 rfl) (x_assign rfl) rfl rfl fun a_29 HE30 => ?_
      refine wpList_nil ?_
      clear a_23 HE24 a_25 HE26 a_27 HE28
      refine nrm ?_
      refine rg ?_
      refine pl_x HE30 HH22 (wt0 rfl) (x_move rfl) rfl rfl fun a_31 HE32 => ?_
      refine pl_x HE32 HH22 (wt0 rfl) (x_move rfl) rfl rfl fun a_33 HE34 => ?_
      refine pl fun K_35 hK36 => ?_
      refine st_call HE34 (wt0 rfl) rfl rfl rfl en_37 rfl rfl (impl_dotted _ _ e25 _ (HH22.old ge25_0) (HH22.glob hG) (by assumption)) fun e w' hr => ?_
      have hAr26_0 := dotT_len (w := e25) (by assumption)
      obtain ⟨rfl, hbr26⟩ := hr
      have HH37 := HH22.on hbr26
      refine ⟨_, rfl, fun a_38 HE39 => hK36 _ _ ?_⟩
      refine pl fun K_40 hK41 => ?_
      refine st_lit (m := 1) (cs := [.string (bs (dotT e25))]) (e := 9) HE39 HH37 (run_lit ts_39 HE39 (vs := [.string (bs (dotT e25))]) rfl rfl (by simp [Value.cells]) rfl (by decide)) (wt0 rfl) rfl rfl fun q27 a_42 w' HE43 HH44 => hK41 _ _ ?_
      refine pl fun K_45 hK46 => ?_
      refine st_app1F (dotT e25) HE43 HH44 ts_39 [1, 0] (by decide) rfl (fun _ => (oS (by first | omega | (simp only [List.length_append, List.length_cons, List.length_nil]; omega) | (simp; omega)))) rfl rfl (by simp [Value.oneCell']) (by unfold maxLen; first | omega | (simp; done) | (simp; omega)) (by first | omega | (simp; done) | (simp; omega)) (wt0 rfl) rfl fun A28 c29 S30 a_47 w' HE48 HH49 => hK46 _ _ ?_
      refine pl_x HE48 HH49 (wt0 rfl) (x_assign rfl) rfl rfl fun a_50 HE51 => ?_
      refine wpList_nil ?_
      clear a_29 HE30 a_31 HE32 HH22 a_33 HE34 K_35 hK36 a_38 HE39 HH37 K_40 hK41 a_42 HE43 HH44 a_47 HE48 hK46 K_45
      refine blk_n ?_
      refine nrm ?_
      refine rg ?_
      refine pl_x HE51 HH49 (wt0 rfl) (x_add rfl rfl (by exact ⟨by omega, by omega⟩)) rfl rfl fun a_52 HE53 => ?_
      refine pl_x HE53 HH49 (wt0 rfl) (x_move rfl) rfl rfl fun a_54 HE55 => ?_
      refine wpList_nil ?_
      clear a_50 HE51 a_52 HE53
      have E31 : (a0.take (k + 1)).map dotT = ((a0.take k).map dotT ++ [(dotT e25)]) := by
        first | (rw [List.take_succ_eq_append_getElem (by omega), List.map_append, ← xe25]; rfl) | (rw [List.take_succ_eq_append_getElem (by omega), List.map_append, ← xe25]; simp [dotT, hc24])
      exact nrm ⟨a0.length - (k + 1), (by omega), k + 1, A28, c29, S30, rfl, HE55.sub ⟨(by rw [E31]; rfl), (lkI rfl (by first | rfl | omega | (simp [p23_0, hc24, xe25]; done))), rfl, rfl, trivial⟩, ((HH49.sel [0] (by decide) rfl).to (by first | rfl | (rw [E31]; done) | (rw [E31]; rfl) | (simp only [E31]; done) | (simp only [E31]; rfl) | (rw [E31]; simp only [List.length_set]; done))), (by first | omega | assumption | (simp; done) | simp_all)⟩
    · refine wp_exit ?_
      refine (thn_exit (thn_exit (blk_hit ?_)))
      refine nrm ?_
      refine wp_seq ?_
      refine rg ?_
      refine pl_x HE24 HH22 (wt0 rfl) (x_move rfl) rfl rfl fun a_56 HE57 => ?_
      refine pl fun K_58 hK59 => ?_
      refine st_call HE57 (wt0 rfl) rfl rfl rfl en_38 rfl rfl (Join_Str _ _ ((a0.take k).map dotT) ([44]) _ (HH22.vecSl (i := 0) rfl) (by first | omega | (simp; done)) (by first | omega | (simp [Go.Lib.join, List.intercalate]; omega))) fun e w' hr => ?_
      have hAr32_0 := (by first | omega | (simp [Go.Lib.join, List.intercalate]; omega) : (Go.Lib.join ((a0.take k).map dotT) ([44])).length ≤ 1000000000)
      obtain ⟨rfl, hbr32⟩ := hr
      have HH60 := HH22.on hbr32
      refine ⟨_, rfl, fun a_61 HE62 => hK59 _ _ ?_⟩
      refine pl_x HE62 HH60 (wt0 rfl) (x_assign rfl) rfl rfl fun a_63 HE64 => ?_
      refine wpList_nil ?_
      clear a_23 HE24 HH22 a_56 HE57 a_61 HE62 hK59 K_58
      refine nrm ?_
      refine wp_ret ?_
      refine ret1 HE64 rfl (rv_tmp rfl) ?_
      have hF : (wordsT a0) = (Go.Lib.join ((a0.take k).map dotT) ([44])) := by
        unfold wordsT; rw [List.take_of_length_le (by omega)]
      exact ⟨by first | (rw [hF] <;> rfl) | rfl | (rw [hF]; simp only [Ending.returned.injEq, Value.slice.injEq, true_and, and_true]; first | omega | (simp; done)) | (rw [hF]; simp; omega), HH60.below⟩

set_option maxRecDepth 100000 in
set_option maxHeartbeats 4000000 in
theorem impl_CyclicText (es0 : List Value) (a0 : tCyclic) (w : World) (h0 : eCyclic.R w (Old w) es0 a0) (hG : Glob w) :
    Calls Tryd.prog 13 #[.agg es0.toArray] w fun e w' => e = .returned (.string (bs (cyclicText a0))) ∧ Below w.heap.size w w' := by
  have H0 := h0
  obtain ⟨Az0_0, cz0_0, rfl, gz0_0⟩ := shape_Cyclic h0
  have lz0_0 := gz0_0.len
  have HH1 := Held.start Nob w
  refine enter (n := 9) Tryd.func13 rfl rfl rfl fun a_2 HE3 => ?_
  refine wp_seq ?_
  refine rg ?_
  refine pl fun K_4 hK5 => ?_
  refine st_box (cs := [.slice Az0_0 (a0.length) cz0_0]) HE3 HH1 rfl rfl (wt0 rfl) rfl fun q21 a_6 w' HE7 HH8 => hK5 _ _ ?_
  refine pl_x HE7 HH8 (wt0 rfl) (x_assign rfl) rfl rfl fun a_9 HE10 => ?_
  refine wpList_nil ?_
  clear a_2 HE3 HH1 a_6 HE7 hK5 K_4
  refine nrm ?_
  refine wp_seq ?_
  refine wp_seq ?_
  refine rg ?_
  refine pl_x HE10 HH8 (wt0 rfl) (x_loadN (cs := [.slice Az0_0 (a0.length) cz0_0]) tv_24 rfl rfl (c_blkN 0 rfl)) rfl rfl fun a_11 HE12 => ?_
  refine pl fun K_13 hK14 => ?_
  refine st_call HE12 (wt0 rfl) rfl rfl rfl en_12 rfl rfl (impl_ValidCyclic [.slice Az0_0 (a0.length) cz0_0] a0 _ (HH8.oldR H0)) fun e w' hr => ?_
  obtain ⟨rfl, hbr22⟩ := hr
  have HH15 := HH8.on hbr22
  refine ⟨_, rfl, fun a_16 HE17 => hK14 _ _ ?_⟩
  refine pl_x HE17 HH15 (wt0 rfl) (x_not rfl) rfl rfl fun a_18 HE19 => ?_
  refine wpList_nil ?_
  clear a_9 HE10 HH8 a_11 HE12 a_16 HE17 hK14 K_13
  refine nrm ?_
  refine cnd_nb HE19 rfl (fun hc23 => ?_) (fun hc23 => ?_)
  · refine wp_seq ?_
    refine rg ?_
    refine pl_x HE19 HH15 (wt0 rfl) (x_assign rfl) rfl rfl fun a_20 HE21 => ?_
    refine wpList_nil ?_
    clear a_18 HE19
    refine nrm ?_
    refine wp_ret ?_
    refine (thn_ret ?_)
    refine ret1 HE21 rfl (rv_tmp rfl) ?_
    have hF : (cyclicText a0) = [] := by
      unfold cyclicText; simp [hc23]
    exact ⟨by first | (rw [hF] <;> rfl) | rfl | (rw [hF]; simp only [Ending.returned.injEq, Value.slice.injEq, true_and, and_true]; first | omega | (simp; done)) | (rw [hF]; simp; omega), HH15.below⟩
  · obtain ⟨v0, v1⟩ := validCyc_ok hc23
    refine wp_skip ?_
    refine nrm ?_
    refine wp_seq ?_
    refine rg ?_
    refine pl_x HE19 HH15 (wt0 rfl) (x_fieldAddr fa_24_0 rfl) rfl rfl fun a_22 HE23 => ?_
    refine pl_x HE23 HH15 (wt0 rfl) (x_load1 tv_22 rfl (c_blk 0 rfl rfl)) rfl rfl fun a_24 HE25 => ?_
    refine pl fun K_26 hK27 => ?_
    refine st_call HE25 (wt0 rfl) rfl rfl rfl en_25 rfl rfl (impl_wordsText _ _ a0 _ (HH15.old gz0_0) (HH15.glob hG) (by omega) (by assumption)) fun e w' hr => ?_
    have hAr24_0 := wordsT_len (l := a0) (by assumption) (by omega)
    obtain ⟨rfl, hbr24⟩ := hr
    have HH28 := HH15.on hbr24
    refine ⟨_, rfl, fun a_29 HE30 => hK27 _ _ ?_⟩
    refine pl_x HE30 HH28 (wt0 rfl) (x_assign rfl) rfl rfl fun a_31 HE32 => ?_
    refine wpList_nil ?_
    clear a_18 HE19 a_22 HE23 HH15 a_24 HE25 a_29 HE30 hK27 K_26
    refine nrm ?_
    refine wp_ret ?_
    refine ret1 HE32 rfl (rv_tmp rfl) ?_
    have hF : (cyclicText a0) = (wordsT a0) := by
      unfold cyclicText; simp [hc23]
    exact ⟨by first | (rw [hF] <;> rfl) | rfl | (rw [hF]; simp only [Ending.returned.injEq, Value.slice.injEq, true_and, and_true]; first | omega | (simp; done)) | (rw [hF]; simp; omega), HH28.below⟩

open Go.Lib in
def isDg (c : UInt8) : Bool := decide (48 ≤ c.toNat) && decide (c.toNat ≤ 57)

open Go.Lib in
def dgv (c : UInt8) : Nat := c.toNat - 48

open Go.Lib in
/-- What digits spell, on from acc. -/
def valD (acc : Nat) (l : List UInt8) : Nat := l.foldl (fun a c => a * 10 + dgv c) acc

open Go.Lib in
theorem valD_cons (acc : Nat) (c : UInt8) (r : List UInt8) : valD acc (c :: r) = valD (acc * 10 + dgv c) r := by unfold valD; rw [List.foldl_cons]

open Go.Lib in
theorem valD_nil (acc : Nat) : valD acc [] = acc := by unfold valD; rw [List.foldl_nil]

open Go.Lib in
theorem valD_snoc (l : List UInt8) (c : UInt8) (acc : Nat) : valD acc (l ++ [c]) = valD acc l * 10 + dgv c := by
  unfold valD; rw [List.foldl_append, List.foldl_cons, List.foldl_nil]

open Go.Lib in
theorem dgv_def (c : UInt8) : dgv c = c.toNat - 48 := rfl

open Go.Lib in
theorem valD_one (c : UInt8) : valD 0 [c] = c.toNat - 48 := by rw [valD_cons, valD_nil, dgv_def]; omega

open Go.Lib in
theorem valD_ge (l : List UInt8) : ∀ acc : Nat, acc ≤ valD acc l := by
  induction l with
  | nil => intro acc; rw [valD_nil]; exact Nat.le_refl _
  | cons c l ih => intro acc; rw [valD_cons]; exact Nat.le_trans (by omega) (ih _)

open Go.Lib in
theorem val_arith {a d p v : Nat} (hd : d ≤ 57) (h1 : v < (a * 10 + (d - 48) + 1) * p) : v < (a + 1) * (p * 10) := by
  refine Nat.lt_of_lt_of_le h1 ?_
  rw [Nat.mul_comm p 10, ← Nat.mul_assoc]
  exact Nat.mul_le_mul_right _ (by omega)

open Go.Lib in
theorem isDg_iff {c : UInt8} : isDg c = true ↔ 48 ≤ c.toNat ∧ c.toNat ≤ 57 := by unfold isDg; simp

open Go.Lib in
theorem valD_lt (l : List UInt8) : ∀ acc : Nat, l.all isDg = true → valD acc l < (acc + 1) * 10 ^ l.length := by
  induction l with
  | nil => intro acc _; rw [List.length_nil, Nat.pow_zero, Nat.mul_one, valD_nil]; exact Nat.lt_succ_self _
  | cons c l ih =>
    intro acc h
    rw [List.all_cons, Bool.and_eq_true] at h
    rw [List.length_cons, Nat.pow_succ, valD_cons]
    exact val_arith (isDg_iff.1 h.1).2 (ih _ h.2)

open Go.Lib in
theorem dec_val : ∀ (n : Nat) (l : List UInt8), l.length = n → l ≠ [] → l.all isDg = true → (l.head? = some 48 → l.length = 1) → decDigits (valD 0 l) = l
  | 0, l, hl, hn, _, _ => absurd (List.eq_nil_of_length_eq_zero hl) hn
  | n + 1, l, hl, hn, hd, h0 => by
    obtain ⟨q, c, rfl⟩ : ∃ q c, l = q ++ [c] := ⟨l.dropLast, l.getLast hn, (List.dropLast_concat_getLast hn).symm⟩
    rw [List.all_append, Bool.and_eq_true] at hd
    have hc : 48 ≤ c.toNat ∧ c.toNat ≤ 57 := by have := hd.2; rw [List.all_cons, List.all_nil, Bool.and_true] at this; exact isDg_iff.1 this
    have hcc : UInt8.ofNat (48 + (c.toNat - 48)) = c := by rw [show 48 + (c.toNat - 48) = c.toNat from by omega]; simp
    rw [valD_snoc, dgv_def]
    by_cases hq : q = []
    · subst hq
      have e0 : valD 0 ([] : List UInt8) * 10 + (c.toNat - 48) = c.toNat - 48 := by rw [valD_nil]; omega
      rw [e0, decDigits, dif_pos (by omega), hcc, List.nil_append]
    · have hq1 : q.head? ≠ some 48 := by
        intro e
        have := h0 (by cases q with | nil => exact absurd rfl hq | cons _ _ => simpa using e)
        rw [List.length_append] at this
        have : q.length = 0 := by simp at this; exact absurd this hq
        exact hq (List.eq_nil_of_length_eq_zero this)
      have ih := dec_val n q (by rw [List.length_append] at hl; simp at hl; omega) hq hd.1 (fun e => absurd e hq1)
      have hpos : 1 ≤ valD 0 q := by
        cases q with
        | nil => exact absurd rfl hq
        | cons d q =>
          have hd1 := hd.1
          rw [List.all_cons, Bool.and_eq_true] at hd1
          have hdd : 48 ≤ d.toNat ∧ d.toNat ≤ 57 := isDg_iff.1 hd1.1
          have hne : d ≠ 48 := fun e => hq1 (by rw [e]; rfl)
          have hne2 : d.toNat ≠ 48 := fun e => hne (UInt8.toNat_inj.1 e)
          rw [valD_cons, dgv_def]
          exact Nat.le_trans (by omega) (valD_ge q _)
      rw [decDigits, dif_neg (by omega), show (valD 0 q * 10 + (c.toNat - 48)) / 10 = valD 0 q from by omega, show (valD 0 q * 10 + (c.toNat - 48)) % 10 = c.toNat - 48 from by omega, ih, hcc]

open Go.Lib in
theorem dec_dig (n : Nat) : (decDigits n).all isDg = true ∧ decDigits n ≠ [] ∧ valD 0 (decDigits n) = n ∧ ((decDigits n).head? = some 48 → n = 0) := by
  induction n using Nat.strongRecOn with
  | _ n ih =>
    by_cases h : n < 10
    · rw [decDigits, dif_pos h]
      have e : (UInt8.ofNat (48 + n)).toNat = 48 + n := by simp; omega
      refine ⟨by rw [List.all_cons, List.all_nil, Bool.and_true]; exact isDg_iff.2 (by rw [e]; omega), by simp, by rw [valD_one, e]; omega, ?_⟩
      intro h2
      simp only [List.head?_cons, Option.some.injEq] at h2
      have := congrArg UInt8.toNat h2
      rw [e] at this
      have h3 : (48 : UInt8).toNat = 48 := rfl
      omega
    · obtain ⟨h1, h2, h3, h4⟩ := ih (n / 10) (by omega)
      rw [decDigits, dif_neg h]
      have e : (UInt8.ofNat (48 + n % 10)).toNat = 48 + n % 10 := by simp; omega
      refine ⟨by rw [List.all_append, h1, List.all_cons, List.all_nil, Bool.and_true, Bool.true_and]; exact isDg_iff.2 (by rw [e]; omega), by simp, by rw [valD_snoc, h3, dgv_def, e]; omega, ?_⟩
      intro h5
      have h6 : (decDigits (n / 10)).head? = some 48 := by
        cases hq : decDigits (n / 10) with
        | nil => exact absurd hq h2
        | cons a b => rw [hq] at h5; exact h5
      have := h4 h6
      omega

open Go.Lib in
theorem parse_dig (M : Nat) (l : List UInt8) : ∀ acc : Nat, l.all isDg = true → valD acc l ≤ M → valD acc l < 18446744073709551615 → parseUintM M acc l = .ok (valD acc l) := by
  induction l with
  | nil => intro acc _ _ _; rw [valD_nil, parseUintM]
  | cons c l ih =>
    intro acc h h1 h2
    rw [List.all_cons, Bool.and_eq_true] at h
    have hc := isDg_iff.1 h.1
    have hg := valD_ge l (acc * 10 + dgv c)
    rw [valD_cons] at h1 h2 ⊢
    have hd := dgv_def c
    rw [parseUintM, if_pos hc, ← hd, if_neg (by omega), if_neg (by omega)]
    exact ih _ h.2 h1 h2

open Go.Lib in
/-- The part of a numeral behind its sign. -/
def unsg (s : List UInt8) : List UInt8 := if s.head? = some 45 then s.tail else s

open Go.Lib in
/-- A numeral of at most 18 digits, in its one form. -/
def okNum (s : List UInt8) : Bool := decide (unsg s ≠ []) && decide ((unsg s).length ≤ 18) && (unsg s).all isDg && !(decide ((unsg s).head? = some 48) && decide (1 < s.length))

open Go.Lib in
def numOf (s : List UInt8) : Int := if s.head? = some 45 then -(valD 0 (unsg s) : Int) else (valD 0 (unsg s) : Int)

open Go.Lib in
def numC (s : List UInt8) : Int × Bool := if okNum s = true then (numOf s, true) else (0, false)

open Go.Lib in
/-- The program's way. -/
def numR (s : List UInt8) : Int × Bool :=
  match parseIntB 64 s with
  | .ok v => if itoa v = s ∧ (unsg s).length ≤ 18 then (v, true) else (0, false)
  | _ => (0, false)

open Go.Lib in
theorem okNum_iff (s : List UInt8) : okNum s = true ↔ unsg s ≠ [] ∧ (unsg s).length ≤ 18 ∧ (unsg s).all isDg = true ∧ ¬ ((unsg s).head? = some 48 ∧ 1 < s.length) := by
  unfold okNum
  simp only [Bool.and_eq_true, decide_eq_true_eq, Bool.not_eq_true', Bool.and_eq_false_iff, decide_eq_false_iff_not]
  constructor
  · rintro ⟨⟨⟨h1, h2⟩, h3⟩, h4⟩; exact ⟨h1, h2, h3, fun ⟨a, b⟩ => h4.elim (fun h => h a) (fun h => h b)⟩
  · rintro ⟨h1, h2, h3, h4⟩
    refine ⟨⟨⟨h1, h2⟩, h3⟩, ?_⟩
    by_cases a : (unsg s).head? = some 48
    · exact .inr fun b => h4 ⟨a, b⟩
    · exact .inl a

open Go.Lib in
theorem dig_head {l : List UInt8} (h : l.all isDg = true) : l.head? ≠ some 45 := by
  cases l with
  | nil => simp
  | cons c l =>
    rw [List.all_cons, Bool.and_eq_true] at h
    intro e
    simp only [List.head?_cons, Option.some.injEq] at e
    have := h.1
    rw [e] at this
    exact absurd this (by decide)

open Go.Lib in
/-- The one form of a number has it again. -/
theorem okNum_itoa {v : Int} (h : -1000000000000000000 < v ∧ v < 1000000000000000000) : okNum (itoa v) = true ∧ numOf (itoa v) = v := by
  have key : ∀ n : Nat, n < 1000000000000000000 → (decDigits n).length ≤ 18 := by
    intro n hn
    rw [decDigits_length]
    exact nDigits_le 17 n (by simpa using hn)
  by_cases hv : v < 0
  · obtain ⟨h1, h2, h3, h4⟩ := dec_dig v.natAbs
    have e : itoa v = 45 :: decDigits v.natAbs := by unfold itoa; rw [if_pos hv]
    rw [e]
    have eu : unsg (45 :: decDigits v.natAbs) = decDigits v.natAbs := rfl
    refine ⟨(okNum_iff _).2 ?_, ?_⟩
    · rw [eu]
      exact ⟨h2, key _ (by omega), h1, fun hq => by have := h4 hq.1; omega⟩
    · unfold numOf
      rw [eu, List.head?_cons, if_pos rfl, h3]; omega
  · obtain ⟨h1, h2, h3, h4⟩ := dec_dig v.toNat
    have e : itoa v = decDigits v.toNat := by unfold itoa; rw [if_neg hv]
    rw [e]
    have eu : unsg (decDigits v.toNat) = decDigits v.toNat := by unfold unsg; rw [if_neg (dig_head h1)]
    refine ⟨(okNum_iff _).2 ?_, ?_⟩
    · rw [eu]
      refine ⟨h2, key _ (by omega), h1, fun hq => ?_⟩
      have h5 := h4 hq.1
      rw [h5] at hq
      rw [decDigits, dif_pos (by omega)] at hq
      exact absurd hq.2 (by simp)
    · unfold numOf
      rw [eu, if_neg (dig_head h1), h3]; omega

open Go.Lib in
theorem itoa_num {s : List UInt8} (h : okNum s = true) : itoa (numOf s) = s ∧ -1000000000000000000 < numOf s ∧ numOf s < 1000000000000000000 := by
  obtain ⟨h1, h2, h3, h4⟩ := (okNum_iff s).1 h
  have hb := valD_lt (unsg s) 0 h3
  have hb2 : valD 0 (unsg s) < 1000000000000000000 := by
    refine Nat.lt_of_lt_of_le hb ?_
    have := Nat.pow_le_pow_right (n := 10) (by omega) h2
    omega
  by_cases hs : s.head? = some 45
  · have eu : unsg s = s.tail := by unfold unsg; rw [if_pos hs]
    have es : s = 45 :: s.tail := by cases s with | nil => cases hs | cons c r => simp at hs; rw [hs]; rfl
    have hl : 1 < s.length := by rw [es]; rw [eu] at h1; cases hq : s.tail with | nil => exact absurd hq h1 | cons _ _ => simp
    have hne : ¬ (unsg s).head? = some 48 := fun e => h4 ⟨e, hl⟩
    have hd := dec_val _ (unsg s) rfl h1 h3 (fun e => absurd e hne)
    have hpos : valD 0 (unsg s) ≠ 0 := by
      intro e0
      rw [e0] at hd
      have : decDigits 0 = [48] := by rw [decDigits, dif_pos (by omega)]; rfl
      rw [this] at hd
      exact hne (by rw [← hd]; rfl)
    unfold numOf
    rw [if_pos hs]
    refine ⟨?_, by omega, by omega⟩
    unfold itoa
    rw [if_pos (by omega), show (-(valD 0 (unsg s) : Int)).natAbs = valD 0 (unsg s) from by omega, hd, eu]
    exact es.symm
  · have eu : unsg s = s := by unfold unsg; rw [if_neg hs]
    have hd := dec_val _ (unsg s) rfl h1 h3 (fun e => by
      rw [eu] at e ⊢
      rcases Nat.lt_or_ge 1 s.length with hl | hl
      · exact absurd ⟨by rw [eu]; exact e, hl⟩ h4
      · have : s.length ≠ 0 := fun e0 => h1 (by rw [eu]; exact List.eq_nil_of_length_eq_zero e0)
        omega)
    unfold numOf
    rw [if_neg hs]
    refine ⟨?_, by omega, by omega⟩
    unfold itoa
    rw [if_neg (by omega), Int.toNat_natCast, hd, eu]

open Go.Lib in
theorem parse_num {s : List UInt8} (h : okNum s = true) : parseIntB 64 s = .ok (numOf s) := by
  obtain ⟨h1, h2, h3, h4⟩ := (okNum_iff s).1 h
  have hb := valD_lt (unsg s) 0 h3
  have hb2 : valD 0 (unsg s) < 1000000000000000000 := by
    refine Nat.lt_of_lt_of_le hb ?_
    have := Nat.pow_le_pow_right (n := 10) (by omega) h2
    omega
  have hp : parseUintB 64 (unsg s) = .ok (valD 0 (unsg s)) := by
    unfold parseUintB
    rw [if_neg h1]
    exact parse_dig _ _ 0 h3 (by omega) (by omega)
  by_cases hs : s.head? = some 45
  · have eu : unsg s = s.tail := by unfold unsg; rw [if_pos hs]
    have es : s = 45 :: s.tail := by cases s with | nil => cases hs | cons c r => simp at hs; rw [hs]; rfl
    rw [eu] at hp hb2
    unfold numOf
    rw [if_pos hs, eu]
    conv => lhs; rw [es]
    rw [parseIntB_minus, hp, signedC, if_neg (by omega)]
  · have eu : unsg s = s := by unfold unsg; rw [if_neg hs]
    rw [eu] at hp hb2 h1 h3
    unfold numOf
    rw [if_neg hs, eu]
    cases s with
    | nil => exact absurd rfl h1
    | cons c r =>
      rw [List.all_cons, Bool.and_eq_true] at h3
      have hc : 48 ≤ c.toNat ∧ c.toNat ≤ 57 := isDg_iff.1 h3.1
      rw [parseIntB_plain 64 c r (by omega) (by omega), hp, signlessC, if_neg (by omega)]

open Go.Lib in
theorem numR_eq (s : List UInt8) : numR s = numC s := by
  unfold numC
  by_cases h : okNum s = true
  · rw [if_pos h]
    unfold numR
    rw [parse_num h]
    exact if_pos ⟨(itoa_num h).1, ((okNum_iff s).1 h).2.1⟩
  · rw [if_neg h]
    unfold numR
    split
    · rename_i v hv
      rw [if_neg]
      rintro ⟨h1, h2⟩
      have hb := parseIntB_bounds hv
      apply h
      have hsm : -1000000000000000000 < v ∧ v < 1000000000000000000 := by
        have hk : ∀ n : Nat, (decDigits n).length ≤ 18 → n < 1000000000000000000 := by
          intro n hn
          rw [decDigits_length] at hn
          have := lt_pow_nDigits n
          have h5 := Nat.pow_le_pow_right (n := 10) (by omega) hn
          omega
        by_cases hv0 : v < 0
        · have e : itoa v = 45 :: decDigits v.natAbs := by unfold itoa; rw [if_pos hv0]
          have : unsg s = decDigits v.natAbs := by rw [← h1, e]; rfl
          rw [this] at h2
          have := hk _ h2
          omega
        · have e : itoa v = decDigits v.toNat := by unfold itoa; rw [if_neg hv0]
          have : unsg s = decDigits v.toNat := by rw [← h1, e]; unfold unsg; rw [if_neg (dig_head (dec_dig _).1)]
          rw [this] at h2
          have := hk _ h2
          omega
      rw [← h1]
      exact (okNum_itoa hsm).1
    · rfl

open Go.Lib in
/-- A text divided at each byte c. -/
def splitR (c : UInt8) : List UInt8 → List (List UInt8)
  | [] => [[]]
  | b :: l => if b = c then [] :: splitR c l else match splitR c l with
    | p :: r => (b :: p) :: r
    | [] => [[b]]

open Go.Lib in
theorem splitR_nil (c : UInt8) : splitR c [] = [[]] := by rw [splitR]

open Go.Lib in
theorem splitR_eq (c : UInt8) (l : List UInt8) : splitR c (c :: l) = [] :: splitR c l := by rw [splitR, if_pos rfl]

open Go.Lib in
theorem splitR_ne {b c : UInt8} (h : ¬ b = c) {l p : List UInt8} {r : List (List UInt8)} (e : splitR c l = p :: r) : splitR c (b :: l) = (b :: p) :: r := by rw [splitR, if_neg h, e]

open Go.Lib in
theorem splitR_some (c : UInt8) (l : List UInt8) : ∃ p r, splitR c l = p :: r := by
  cases l with
  | nil => exact ⟨_, _, splitR_nil c⟩
  | cons b l =>
    by_cases h : b = c
    · subst h; exact ⟨_, _, splitR_eq b l⟩
    · rw [splitR, if_neg h]
      split
      · exact ⟨_, _, rfl⟩
      · exact ⟨_, _, rfl⟩

open Go.Lib in
theorem index_one_ne {b c : UInt8} (l : List UInt8) (h : ¬ b = c) : index (b :: l) [c] = if index l [c] == -1 then -1 else index l [c] + 1 := by
  have hp : ([c] : List UInt8).isPrefixOf (b :: l) = false := by simp [List.isPrefixOf]; exact fun e => h e.symm
  rw [index, hp]; simp

open Go.Lib in
theorem index_one_eq (c : UInt8) (l : List UInt8) : index (c :: l) [c] = 0 := by rw [index]; simp [List.isPrefixOf]

open Go.Lib in
theorem split_one (c : UInt8) : ∀ s : List UInt8, splitK [c] 0 (count s [c]) s = splitR c s
  | [] => by rw [count_miss (by simp [index]), splitR_nil]; rfl
  | b :: l => by
    have ih := split_one c l
    by_cases h : b = c
    · subst h
      rw [count_cons_eq, Nat.add_comm, splitK, if_neg (by rw [index_one_eq]; decide), index_one_eq, splitR_eq, ← ih]
      simp
    · rw [count_cons_ne b c l h]
      cases hk : count l [c] with
      | zero =>
        rw [hk] at ih
        have e : splitR c l = l :: [] := by rw [← ih]; rfl
        rw [splitR_ne h e]; rfl
      | succ k =>
        rw [hk] at ih
        obtain ⟨j, hj⟩ := index_of_count (s := l) (old := [c]) (by omega)
        have hm : ¬ (index l [c] == -1) = true := by rw [hj]; intro e; have := beq_iff_eq.1 e; omega
        rw [splitK, if_neg hm, hj] at ih
        have hj2 : index (b :: l) [c] = ((j + 1 : Nat) : Int) := by rw [index_one_ne l h, if_neg hm, hj]; omega
        rw [splitR_ne h ih.symm, splitK, if_neg (by rw [hj2]; intro e; have := beq_iff_eq.1 e; omega), hj2]
        simp

open Go.Lib in
/-- Each byte a turned into b. -/
def subB (a b : UInt8) (s : List UInt8) : List UInt8 := s.map fun x => if x = a then b else x

open Go.Lib in
theorem replaceK_one (a b : UInt8) : ∀ s : List UInt8, replaceK [a] [b] (count s [a]) s = subB a b s
  | [] => by rw [count_miss (by simp [index])]; rfl
  | x :: l => by
    have ih := replaceK_one a b l
    by_cases h : x = a
    · subst h
      rw [count_cons_eq, Nat.add_comm, replaceK, if_neg (by rw [index_one_eq]; decide), index_one_eq]
      simp only [Int.toNat_zero, List.take_zero, List.length_cons, List.length_nil, List.drop_succ_cons, List.drop_zero, Nat.zero_add, List.nil_append]
      rw [ih]
      simp [subB]
    · rw [count_cons_ne x a l h]
      have e0 : subB a b (x :: l) = x :: subB a b l := by simp [subB, h]
      rw [e0, ← ih]
      cases hk : count l [a] with
      | zero => rfl
      | succ k =>
        obtain ⟨j, hj⟩ := index_of_count (s := l) (old := [a]) (by omega)
        have hm : ¬ (index l [a] == -1) = true := by rw [hj]; intro e; have := beq_iff_eq.1 e; omega
        have hj2 : index (x :: l) [a] = ((j + 1 : Nat) : Int) := by rw [index_one_ne l h, if_neg hm, hj]; omega
        rw [replaceK_hit [a] [b] k l j hj, replaceK_hit [a] [b] k (x :: l) (j + 1) hj2]
        simp

open Go.Lib in
theorem replaceAll_one {a b : UInt8} (h : ¬ a = b) (s : List UInt8) : replaceAll s [a] [b] = subB a b s := by
  unfold replaceAll replace replaceNum
  rw [if_neg (by simpa using h), if_pos (.inl (by decide)), replaceK_one]

open Go.Lib in
theorem splitR_no {c : UInt8} : ∀ {l : List UInt8}, c ∉ l → splitR c l = [l]
  | [], _ => splitR_nil c
  | b :: l, h => by
    have h1 := splitR_no (c := c) (l := l) fun hm => h (List.mem_cons_of_mem _ hm)
    exact splitR_ne (fun e => h (by rw [e]; exact List.mem_cons_self)) h1

open Go.Lib in
theorem splitR_app {c : UInt8} {r : List UInt8} : ∀ {p : List UInt8}, c ∉ p → splitR c (p ++ c :: r) = p :: splitR c r
  | [], _ => splitR_eq c r
  | b :: l, h => splitR_ne (fun e => h (by rw [e]; exact List.mem_cons_self)) (splitR_app (p := l) fun hm => h (List.mem_cons_of_mem _ hm))

open Go.Lib in
/-- Pieces without c, joined by c, are divided into themselves. -/
theorem splitR_join {c : UInt8} {x : List UInt8} : ∀ {r : List (List UInt8)}, (∀ p ∈ x :: r, c ∉ p) → splitR c (join (x :: r) [c]) = x :: r
  | [], h => by rw [join_one]; exact splitR_no (h x (by simp))
  | y :: r, h => by
    have ih := splitR_join (x := y) (r := r) fun p hp => h p (List.mem_cons_of_mem _ hp)
    have e : join (x :: y :: r) [c] = x ++ c :: join (y :: r) [c] := by rw [join_cons, join_cons]; simp [joinTail]
    rw [e, splitR_app (h x (by simp)), ih]

open Go.Lib in
/-- .. and the other way. -/
theorem join_splitR (c : UInt8) : ∀ l : List UInt8, join (splitR c l) [c] = l ∧ ∀ p ∈ splitR c l, c ∉ p
  | [] => by rw [splitR_nil]; exact ⟨join_one _ _, by simp⟩
  | b :: l => by
    obtain ⟨h1, h2⟩ := join_splitR c l
    obtain ⟨p, r, e⟩ := splitR_some c l
    by_cases h : b = c
    · subst h
      rw [splitR_eq]
      refine ⟨?_, fun q hq => ?_⟩
      · rw [e] at h1 ⊢
        rw [join_cons] at h1 ⊢
        simp only [joinTail, List.map_cons, List.flatten_cons, List.nil_append, List.cons_append] at h1 ⊢
        rw [h1]
      · rcases List.mem_cons.1 hq with rfl | hq
        · simp
        · exact h2 q hq
    · rw [splitR_ne h e]
      rw [e] at h1 h2
      refine ⟨?_, fun q hq => ?_⟩
      · rw [join_cons] at h1 ⊢
        rw [List.cons_append, h1]
      · rcases List.mem_cons.1 hq with rfl | hq
        · intro hm
          rcases List.mem_cons.1 hm with hm | hm
          · exact h hm.symm
          · exact h2 p (by simp) hm
        · exact h2 q (List.mem_cons_of_mem _ hq)

open Go.Lib in
theorem splitR_len (c : UInt8) : ∀ l : List UInt8, (splitR c l).length ≤ l.length + 1 ∧ 1 ≤ (splitR c l).length
  | [] => by rw [splitR_nil]; simp
  | b :: l => by
    obtain ⟨h1, h2⟩ := splitR_len c l
    obtain ⟨p, r, e⟩ := splitR_some c l
    by_cases h : b = c
    · subst h; rw [splitR_eq]; simp only [List.length_cons]; omega
    · rw [splitR_ne h e]; rw [e] at h1 h2; simp only [List.length_cons] at h1 h2 ⊢; omega

open Go.Lib in
theorem splitR_piece (c : UInt8) : ∀ (l : List UInt8), ∀ p ∈ splitR c l, p.length ≤ l.length
  | [], p, hp => by rw [splitR_nil] at hp; rw [List.mem_singleton.1 hp]; simp
  | b :: l, p, hp => by
    obtain ⟨q, r, e⟩ := splitR_some c l
    by_cases h : b = c
    · subst h
      rw [splitR_eq] at hp
      rcases List.mem_cons.1 hp with rfl | hp
      · simp
      · have := splitR_piece b l p hp; simp only [List.length_cons]; omega
    · rw [splitR_ne h e] at hp
      rcases List.mem_cons.1 hp with rfl | hp
      · have := splitR_piece c l q (by rw [e]; simp); simp only [List.length_cons]; omega
      · have := splitR_piece c l p (by rw [e]; exact List.mem_cons_of_mem _ hp); simp only [List.length_cons]; omega

open Go.Lib in
def IfVar (w : World) (n : String) : Prop := ∃ tp p, w.var? Tryd.prog n = some #[.iface tp p]

open Go.Lib in
def MaxAt (w : World) : Prop := ∃ m, w.cell? ⟨0, 0, none⟩ = some (.int .i64 m)

open Go.Lib in
/-- What the library's readers look up. -/
def Glob2 (w : World) : Prop := Glob w ∧ (IfVar w "strconv.ErrSyntax" ∧ IfVar w "strconv.ErrRange") ∧ MaxAt w

open Go.Lib in
theorem synNum : Tryd.prog.globalNamed "strconv.ErrSyntax" = some 3 := by kernel_rfl

open Go.Lib in
theorem rngNum : Tryd.prog.globalNamed "strconv.ErrRange" = some 4 := by kernel_rfl

open Go.Lib in
theorem ifvar_below {w w' : World} {n : String} {g : Nat} (hg : Tryd.prog.globalNamed n = some g) (h : IfVar w n) (hb : Below w.heap.size w w') : IfVar w' n := by
  obtain ⟨tp, p, h⟩ := h
  refine ⟨tp, p, ?_⟩
  unfold World.var? at h ⊢
  rw [hg] at h ⊢
  simp only [Option.bind_some] at h ⊢
  have hlt : g < w.heap.size := by
    rcases Nat.lt_or_ge g w.heap.size with hlt | hge
    · exact hlt
    · rw [Array.getElem?_eq_none hge] at h; cases h
  rw [hb.block g hlt]
  exact h

open Go.Lib in
theorem max_below {w w' : World} (h : MaxAt w) (hb : Below w.heap.size w w') : MaxAt w' := by
  obtain ⟨m, h⟩ := h
  refine ⟨m, ?_⟩
  unfold World.cell? at h ⊢
  have hlt : 0 < w.heap.size := by
    rcases Nat.lt_or_ge 0 w.heap.size with hlt | hge
    · exact hlt
    · rw [Array.getElem?_eq_none hge] at h; cases h
  rw [hb.block _ hlt]
  exact h

open Go.Lib in
theorem Held.glob2 {w0 w : World} {rs : List Res} (h : Held Nob w0 rs w) (hG : Glob2 w0) : Glob2 w := ⟨h.glob hG.1, ⟨ifvar_below synNum hG.2.1.1 h.below, ifvar_below rngNum hG.2.1.2 h.below⟩, max_below hG.2.2 h.below⟩

open Go.Lib in
def shelf_C174_ren : Go.Shelf.Ren := ⟨fun | 174 => 56 | 247 => 66 | 245 => 67 | 287 => 74 | 279 => 75 | 280 => 76 | 281 => 77 | 282 => 78 | 321 => 81 | 322 => 82 | 316 => 83 | 171 => 85 | 205 => 84 | 243 => 90 | 246 => 79 | 283 => 86 | 284 => 87 | 285 => 88 | 286 => 89 | 129 => 92 | 317 => 91 | 318 => 93 | 319 => 94 | 320 => 95 | 337 => 96 | 338 => 97 | n => n, fun | 9 => 9 | 3 => 3 | 2 => 2 | 75 => 74 | 85 => 82 | 4 => 4 | 167 => 101 | 5 => 5 | 53 => 102 | 175 => 103 | 46 => 88 | 168 => 105 | 37 => 69 | 0 => 0 | 210 => 112 | 21 => 21 | 127 => 86 | 145 => 122 | 143 => 120 | 171 => 115 | 173 => 118 | 212 => 124 | 51 => 98 | 20 => 20 | 213 => 125 | 232 => 129 | 233 => 130 | 80 => 77 | n => n, fun | 15 => 3 | 16 => 4 | 17 => 5 | 18 => 6 | 19 => 7 | n => n⟩

open Go.Lib in
theorem shelf_C174 : Go.Proofs.LaysC.n174 Tryd.prog shelf_C174_ren := {
  mixed := by kernel_rfl
  f129 := Tryd.func92.trans (congrArg some (by kernel_rfl))
  f171 := Tryd.func85.trans (congrArg some (by kernel_rfl))
  f174 := Tryd.func56.trans (congrArg some (by kernel_rfl))
  f205 := Tryd.func84.trans (congrArg some (by kernel_rfl))
  f243 := Tryd.func90.trans (congrArg some (by kernel_rfl))
  f245 := Tryd.func67.trans (congrArg some (by kernel_rfl))
  f246 := Tryd.func79.trans (congrArg some (by kernel_rfl))
  f247 := Tryd.func66.trans (congrArg some (by kernel_rfl))
  f279 := Tryd.func75.trans (congrArg some (by kernel_rfl))
  f280 := Tryd.func76.trans (congrArg some (by kernel_rfl))
  f281 := Tryd.func77.trans (congrArg some (by kernel_rfl))
  f282 := Tryd.func78.trans (congrArg some (by kernel_rfl))
  f283 := Tryd.func86.trans (congrArg some (by kernel_rfl))
  f284 := Tryd.func87.trans (congrArg some (by kernel_rfl))
  f285 := Tryd.func88.trans (congrArg some (by kernel_rfl))
  f286 := Tryd.func89.trans (congrArg some (by kernel_rfl))
  f287 := Tryd.func74.trans (congrArg some (by kernel_rfl))
  f316 := Tryd.func83.trans (congrArg some (by kernel_rfl))
  f317 := Tryd.func91.trans (congrArg some (by kernel_rfl))
  f318 := Tryd.func93.trans (congrArg some (by kernel_rfl))
  f319 := Tryd.func94.trans (congrArg some (by kernel_rfl))
  f320 := Tryd.func95.trans (congrArg some (by kernel_rfl))
  f321 := Tryd.func81.trans (congrArg some (by kernel_rfl))
  f322 := Tryd.func82.trans (congrArg some (by kernel_rfl))
  f337 := Tryd.func96.trans (congrArg some (by kernel_rfl))
  f338 := Tryd.func97.trans (congrArg some (by kernel_rfl))
  t0 := Tryd.underlying0
  a0 := Tryd.isAgg0
  z0 := Tryd.sizeOf0
  v0 := Tryd.zeroValue0
  t2 := Tryd.underlying2
  a2 := Tryd.isAgg2
  z2 := Tryd.sizeOf2
  v2 := Tryd.zeroValue2
  t3 := Tryd.underlying3
  a3 := Tryd.isAgg3
  z3 := Tryd.sizeOf3
  v3 := Tryd.zeroValue3
  t4 := Tryd.underlying4
  a4 := Tryd.isAgg4
  z4 := Tryd.sizeOf4
  v4 := Tryd.zeroValue4
  t5 := Tryd.underlying5
  a5 := Tryd.isAgg5
  z5 := Tryd.sizeOf5
  v5 := Tryd.zeroValue5
  t9 := Tryd.underlying9
  a9 := Tryd.isAgg9
  z9 := Tryd.sizeOf9
  v9 := Tryd.zeroValue9
  t20 := Tryd.underlying20
  a20 := Tryd.isAgg20
  z20 := Tryd.sizeOf20
  v20 := Tryd.zeroValue20
  t21 := Tryd.underlying21
  a21 := Tryd.isAgg21
  z21 := Tryd.sizeOf21
  v21 := Tryd.zeroValue21
  t37 := Tryd.underlying69
  a37 := Tryd.isAgg69
  z37 := Tryd.sizeOf69
  v37 := Tryd.zeroValue69
  t46 := Tryd.underlying88
  a46 := Tryd.isAgg88
  z46 := Tryd.sizeOf88
  v46 := Tryd.zeroValue88
  t51 := Tryd.underlying98
  a51 := Tryd.isAgg98
  z51 := Tryd.sizeOf98
  v51 := Tryd.zeroValue98
  t53 := Tryd.underlying102
  a53 := Tryd.isAgg102
  z53 := Tryd.sizeOf102
  v53 := Tryd.zeroValue102
  t75 := Tryd.underlying74
  a75 := Tryd.isAgg74
  z75 := Tryd.sizeOf74
  v75 := Tryd.zeroValue74
  t85 := Tryd.underlying82
  a85 := Tryd.isAgg82
  z85 := Tryd.sizeOf82
  v85 := Tryd.zeroValue82
  t127 := Tryd.underlying86
  a127 := Tryd.isAgg86
  z127 := Tryd.sizeOf86
  v127 := Tryd.zeroValue86
  t143 := Tryd.underlying120
  a143 := Tryd.isAgg120
  z143 := Tryd.sizeOf120
  v143 := Tryd.zeroValue120
  t145 := Tryd.underlying122
  a145 := Tryd.isAgg122
  z145 := Tryd.sizeOf122
  v145 := Tryd.zeroValue122
  t167 := Tryd.underlying101
  a167 := Tryd.isAgg101
  z167 := Tryd.sizeOf101
  v167 := Tryd.zeroValue101
  t168 := Tryd.underlying105
  a168 := Tryd.isAgg105
  z168 := Tryd.sizeOf105
  v168 := Tryd.zeroValue105
  t171 := Tryd.underlying115
  a171 := Tryd.isAgg115
  z171 := Tryd.sizeOf115
  v171 := Tryd.zeroValue115
  t173 := Tryd.underlying118
  a173 := Tryd.isAgg118
  z173 := Tryd.sizeOf118
  v173 := Tryd.zeroValue118
  t175 := Tryd.underlying103
  a175 := Tryd.isAgg103
  z175 := Tryd.sizeOf103
  v175 := Tryd.zeroValue103
  t210 := Tryd.underlying112
  a210 := Tryd.isAgg112
  z210 := Tryd.sizeOf112
  v210 := Tryd.zeroValue112
  t212 := Tryd.underlying124
  a212 := Tryd.isAgg124
  z212 := Tryd.sizeOf124
  v212 := Tryd.zeroValue124
  t213 := Tryd.underlying125
  a213 := Tryd.isAgg125
  z213 := Tryd.sizeOf125
  t232 := Tryd.underlying129
  a232 := Tryd.isAgg129
  z232 := Tryd.sizeOf129
  v232 := Tryd.zeroValue129
  t233 := Tryd.underlying130
  a233 := Tryd.isAgg130
  z233 := Tryd.sizeOf130
  v233 := Tryd.zeroValue130
  g15 := by kernel_rfl
  g16 := by kernel_rfl
  g17 := by kernel_rfl
  g18 := by kernel_rfl
  g19 := by kernel_rfl
  t80 := Tryd.underlying77
  a80 := Tryd.isAgg77
  z80 := Tryd.sizeOf77
  v80 := Tryd.zeroValue77
  i0 := by kernel_rfl
  i2 := by kernel_rfl
  i3 := by kernel_rfl
  i4 := by kernel_rfl
  i5 := by kernel_rfl
  i9 := by kernel_rfl
  i20 := by kernel_rfl
  i21 := by kernel_rfl
  i37 := by kernel_rfl
  i46 := by kernel_rfl
  i51 := by kernel_rfl
  i53 := by kernel_rfl
  i75 := by kernel_rfl
  i80 := by kernel_rfl
  i85 := by kernel_rfl
  i127 := by kernel_rfl
  i143 := by kernel_rfl
  i145 := by kernel_rfl
  i167 := by kernel_rfl
  i168 := by kernel_rfl
  i171 := by kernel_rfl
  i173 := by kernel_rfl
  i175 := by kernel_rfl
  i210 := by kernel_rfl
  i212 := by kernel_rfl
  i232 := by kernel_rfl
  i233 := by kernel_rfl
  m15 := by kernel_rfl
  m16 := by kernel_rfl
  m17 := by kernel_rfl
  m18 := by kernel_rfl
  m19 := by kernel_rfl
  c0 := by kernel_rfl
  c2 := by kernel_rfl
  c3 := by kernel_rfl
  c4 := by kernel_rfl
  c5 := by kernel_rfl
  c9 := by kernel_rfl
  c20 := by kernel_rfl
  c21 := by kernel_rfl
  c37 := by kernel_rfl
  c46 := by kernel_rfl
  c51 := by kernel_rfl
  c53 := by kernel_rfl
  c75 := by kernel_rfl
  c80 := by kernel_rfl
  c85 := by kernel_rfl
  c127 := by kernel_rfl
  c143 := by kernel_rfl
  c145 := by kernel_rfl
  c167 := by kernel_rfl
  c168 := by kernel_rfl
  c171 := by kernel_rfl
  c173 := by kernel_rfl
  c175 := by kernel_rfl
  c210 := by kernel_rfl
  c212 := by kernel_rfl
  c213 := by kernel_rfl
  c232 := by kernel_rfl
  c233 := by kernel_rfl }

open Go.Lib in
def shelf_146_ren : Go.Shelf.Ren := ⟨fun | 146 => 20 | 221 => 31 | 268 => 41 | 138 => 42 | 143 => 43 | 195 => 52 | 197 => 53 | 218 => 54 | 219 => 55 | 260 => 61 | 217 => 62 | 225 => 63 | 224 => 64 | 267 => 65 | 266 => 72 | 314 => 73 | n => n, fun | 9 => 9 | 31 => 39 | 3 => 3 | 4 => 4 | 0 => 0 | 105 => 79 | 21 => 21 | 5 => 5 | 46 => 88 | 119 => 94 | 139 => 97 | 138 => 96 | 146 => 99 | 51 => 98 | n => n, fun | 1 => 0 | 3 => 1 | 4 => 2 | n => n⟩

open Go.Lib in
theorem shelf_146 : Go.Proofs.Lays.n146 Tryd.prog shelf_146_ren := {
  mixed := by kernel_rfl
  f138 := Tryd.func42.trans (congrArg some (by kernel_rfl))
  f143 := Tryd.func43.trans (congrArg some (by kernel_rfl))
  f146 := Tryd.func20.trans (congrArg some (by kernel_rfl))
  f195 := Tryd.func52.trans (congrArg some (by kernel_rfl))
  f197 := Tryd.func53.trans (congrArg some (by kernel_rfl))
  f217 := Tryd.func62.trans (congrArg some (by kernel_rfl))
  f218 := Tryd.func54.trans (congrArg some (by kernel_rfl))
  f219 := Tryd.func55.trans (congrArg some (by kernel_rfl))
  f221 := Tryd.func31.trans (congrArg some (by kernel_rfl))
  f224 := Tryd.func64.trans (congrArg some (by kernel_rfl))
  f225 := Tryd.func63.trans (congrArg some (by kernel_rfl))
  f260 := Tryd.func61.trans (congrArg some (by kernel_rfl))
  f266 := Tryd.func72.trans (congrArg some (by kernel_rfl))
  f267 := Tryd.func65.trans (congrArg some (by kernel_rfl))
  f268 := Tryd.func41.trans (congrArg some (by kernel_rfl))
  f314 := Tryd.func73.trans (congrArg some (by kernel_rfl))
  t0 := Tryd.underlying0
  a0 := Tryd.isAgg0
  z0 := Tryd.sizeOf0
  v0 := Tryd.zeroValue0
  t3 := Tryd.underlying3
  a3 := Tryd.isAgg3
  z3 := Tryd.sizeOf3
  v3 := Tryd.zeroValue3
  t4 := Tryd.underlying4
  a4 := Tryd.isAgg4
  z4 := Tryd.sizeOf4
  v4 := Tryd.zeroValue4
  t5 := Tryd.underlying5
  a5 := Tryd.isAgg5
  z5 := Tryd.sizeOf5
  v5 := Tryd.zeroValue5
  t9 := Tryd.underlying9
  a9 := Tryd.isAgg9
  z9 := Tryd.sizeOf9
  v9 := Tryd.zeroValue9
  t21 := Tryd.underlying21
  a21 := Tryd.isAgg21
  z21 := Tryd.sizeOf21
  v21 := Tryd.zeroValue21
  t31 := Tryd.underlying39
  a31 := Tryd.isAgg39
  z31 := Tryd.sizeOf39
  v31 := Tryd.zeroValue39
  t46 := Tryd.underlying88
  a46 := Tryd.isAgg88
  z46 := Tryd.sizeOf88
  v46 := Tryd.zeroValue88
  t51 := Tryd.underlying98
  a51 := Tryd.isAgg98
  z51 := Tryd.sizeOf98
  v51 := Tryd.zeroValue98
  t105 := Tryd.underlying79
  a105 := Tryd.isAgg79
  z105 := Tryd.sizeOf79
  v105 := Tryd.zeroValue79
  t119 := Tryd.underlying94
  a119 := Tryd.isAgg94
  z119 := Tryd.sizeOf94
  t138 := Tryd.underlying96
  a138 := Tryd.isAgg96
  z138 := Tryd.sizeOf96
  v138 := Tryd.zeroValue96
  t139 := Tryd.underlying97
  a139 := Tryd.isAgg97
  z139 := Tryd.sizeOf97
  v139 := Tryd.zeroValue97
  t146 := Tryd.underlying99
  a146 := Tryd.isAgg99
  z146 := Tryd.sizeOf99
  v146 := Tryd.zeroValue99
  g1 := by kernel_rfl
  g3 := by kernel_rfl
  g4 := by kernel_rfl }

open Go.Lib in
def shelf_101_ren : Go.Shelf.Ren := ⟨fun | 101 => 58 | 208 => 69 | 206 => 80 | n => n, fun | 9 => 9 | 4 => 4 | 3 => 3 | n => n, fun | n => n⟩

open Go.Lib in
theorem shelf_101 : Go.Proofs.Lays.n101 Tryd.prog shelf_101_ren := {
  mixed := by kernel_rfl
  f101 := Tryd.func58.trans (congrArg some (by kernel_rfl))
  f206 := Tryd.func80.trans (congrArg some (by kernel_rfl))
  f208 := Tryd.func69.trans (congrArg some (by kernel_rfl))
  t3 := Tryd.underlying3
  a3 := Tryd.isAgg3
  z3 := Tryd.sizeOf3
  v3 := Tryd.zeroValue3
  t4 := Tryd.underlying4
  a4 := Tryd.isAgg4
  z4 := Tryd.sizeOf4
  v4 := Tryd.zeroValue4
  t9 := Tryd.underlying9
  a9 := Tryd.isAgg9
  z9 := Tryd.sizeOf9
  v9 := Tryd.zeroValue9 }

open Go.Lib in
def shelf_155_ren : Go.Shelf.Ren := ⟨fun | 155 => 33 | 154 => 45 | 138 => 42 | 165 => 49 | 143 => 43 | 166 => 50 | 197 => 53 | 169 => 51 | 195 => 52 | 218 => 54 | 240 => 59 | 241 => 60 | 219 => 55 | 260 => 61 | 276 => 70 | 277 => 71 | 217 => 62 | 225 => 63 | 224 => 64 | 267 => 65 | 266 => 72 | 314 => 73 | n => n, fun | 9 => 9 | 3 => 3 | 4 => 4 | 72 => 71 | 0 => 0 | 76 => 75 | 105 => 79 | 21 => 21 | 5 => 5 | 70 => 68 | 20 => 20 | 37 => 69 | 75 => 74 | 127 => 86 | 164 => 91 | 46 => 88 | 119 => 94 | 139 => 97 | 138 => 96 | 146 => 99 | 51 => 98 | 80 => 77 | n => n, fun | 1 => 0 | 3 => 1 | 4 => 2 | n => n⟩

open Go.Lib in
theorem shelf_155 : Go.Proofs.Lays.n155 Tryd.prog shelf_155_ren := {
  mixed := by kernel_rfl
  f138 := Tryd.func42.trans (congrArg some (by kernel_rfl))
  f143 := Tryd.func43.trans (congrArg some (by kernel_rfl))
  f154 := Tryd.func45.trans (congrArg some (by kernel_rfl))
  f155 := Tryd.func33.trans (congrArg some (by kernel_rfl))
  f165 := Tryd.func49.trans (congrArg some (by kernel_rfl))
  f166 := Tryd.func50.trans (congrArg some (by kernel_rfl))
  f169 := Tryd.func51.trans (congrArg some (by kernel_rfl))
  f195 := Tryd.func52.trans (congrArg some (by kernel_rfl))
  f197 := Tryd.func53.trans (congrArg some (by kernel_rfl))
  f217 := Tryd.func62.trans (congrArg some (by kernel_rfl))
  f218 := Tryd.func54.trans (congrArg some (by kernel_rfl))
  f219 := Tryd.func55.trans (congrArg some (by kernel_rfl))
  f224 := Tryd.func64.trans (congrArg some (by kernel_rfl))
  f225 := Tryd.func63.trans (congrArg some (by kernel_rfl))
  f240 := Tryd.func59.trans (congrArg some (by kernel_rfl))
  f241 := Tryd.func60.trans (congrArg some (by kernel_rfl))
  f260 := Tryd.func61.trans (congrArg some (by kernel_rfl))
  f266 := Tryd.func72.trans (congrArg some (by kernel_rfl))
  f267 := Tryd.func65.trans (congrArg some (by kernel_rfl))
  f276 := Tryd.func70.trans (congrArg some (by kernel_rfl))
  f277 := Tryd.func71.trans (congrArg some (by kernel_rfl))
  f314 := Tryd.func73.trans (congrArg some (by kernel_rfl))
  t0 := Tryd.underlying0
  a0 := Tryd.isAgg0
  z0 := Tryd.sizeOf0
  v0 := Tryd.zeroValue0
  t3 := Tryd.underlying3
  a3 := Tryd.isAgg3
  z3 := Tryd.sizeOf3
  v3 := Tryd.zeroValue3
  t4 := Tryd.underlying4
  a4 := Tryd.isAgg4
  z4 := Tryd.sizeOf4
  v4 := Tryd.zeroValue4
  t5 := Tryd.underlying5
  a5 := Tryd.isAgg5
  z5 := Tryd.sizeOf5
  v5 := Tryd.zeroValue5
  t9 := Tryd.underlying9
  a9 := Tryd.isAgg9
  z9 := Tryd.sizeOf9
  v9 := Tryd.zeroValue9
  t20 := Tryd.underlying20
  a20 := Tryd.isAgg20
  z20 := Tryd.sizeOf20
  v20 := Tryd.zeroValue20
  t21 := Tryd.underlying21
  a21 := Tryd.isAgg21
  z21 := Tryd.sizeOf21
  v21 := Tryd.zeroValue21
  t37 := Tryd.underlying69
  a37 := Tryd.isAgg69
  z37 := Tryd.sizeOf69
  v37 := Tryd.zeroValue69
  t46 := Tryd.underlying88
  a46 := Tryd.isAgg88
  z46 := Tryd.sizeOf88
  v46 := Tryd.zeroValue88
  t51 := Tryd.underlying98
  a51 := Tryd.isAgg98
  z51 := Tryd.sizeOf98
  v51 := Tryd.zeroValue98
  t70 := Tryd.underlying68
  a70 := Tryd.isAgg68
  z70 := Tryd.sizeOf68
  v70 := Tryd.zeroValue68
  t72 := Tryd.underlying71
  a72 := Tryd.isAgg71
  z72 := Tryd.sizeOf71
  v72 := Tryd.zeroValue71
  t75 := Tryd.underlying74
  a75 := Tryd.isAgg74
  z75 := Tryd.sizeOf74
  v75 := Tryd.zeroValue74
  t76 := Tryd.underlying75
  a76 := Tryd.isAgg75
  z76 := Tryd.sizeOf75
  v76 := Tryd.zeroValue75
  t105 := Tryd.underlying79
  a105 := Tryd.isAgg79
  z105 := Tryd.sizeOf79
  v105 := Tryd.zeroValue79
  t119 := Tryd.underlying94
  a119 := Tryd.isAgg94
  z119 := Tryd.sizeOf94
  t127 := Tryd.underlying86
  a127 := Tryd.isAgg86
  z127 := Tryd.sizeOf86
  v127 := Tryd.zeroValue86
  t138 := Tryd.underlying96
  a138 := Tryd.isAgg96
  z138 := Tryd.sizeOf96
  v138 := Tryd.zeroValue96
  t139 := Tryd.underlying97
  a139 := Tryd.isAgg97
  z139 := Tryd.sizeOf97
  v139 := Tryd.zeroValue97
  t146 := Tryd.underlying99
  a146 := Tryd.isAgg99
  z146 := Tryd.sizeOf99
  v146 := Tryd.zeroValue99
  t164 := Tryd.underlying91
  a164 := Tryd.isAgg91
  z164 := Tryd.sizeOf91
  v164 := Tryd.zeroValue91
  g1 := by kernel_rfl
  g3 := by kernel_rfl
  g4 := by kernel_rfl }

open Go.Lib in
theorem shelf_X_Builder_Extra_155 : Builder.Extra Tryd.prog shelf_155_ren where
  sizeBuilder := by kernel_rfl
  liesBuilder := by kernel_rfl
  t5 := Tryd.underlying5
  a5 := Tryd.isAgg5
  z5 := Tryd.sizeOf5
  v5 := Tryd.zeroValue5
  infoByte := by kernel_rfl
  cellsByte := by kernel_rfl
  sizeByte := by kernel_rfl
  neB5 := by decide

open Go.Lib in
/-- An error value that is nil or not. -/
def IsErr (v : Value) (b : Bool) : Prop := if b = true then ∃ t x, v = .iface t x else v = .nilIface

open Go.Lib in
theorem x_neqNil {P : Program} {S : World → Prop} {L : List (Nat × Value)} {d : Option Tmp} {t t' : TypeId} {x : Operand} {v : Value} {r : Bool} {ty : TypeId} {pos : String} {af : Array Edge} {g : Option (Nat × Bool)} (hv : IsErr v r) (hi : P.isIface t = true) (hx : ev L x = some v) : XS P S L ⟨d, .binOp .neq t x (.const .nilIface) t', ty, pos, af, g⟩ (.bool r) := fun _ a w hE _ => by
  have hn : a.eval (.const .nilIface) = Value.nilIface := rfl
  cases r with
  | true =>
    obtain ⟨u, y, rfl⟩ := hv
    have hg : (eqGuard .neq t x (.const .nilIface) (.iface u y) .nilIface).run P w = .ok () w := rfl
    simp only [execOp, hE.ev hx, hn, Sem.run_bind, hg, Result.andThen_ok, run_neq_iface_nil w t hi u y, Sem.run_pure]
  | false =>
    obtain rfl := hv
    have hg : (eqGuard .neq t x (.const .nilIface) .nilIface .nilIface).run P w = .ok () w := by
      cases x <;> rfl
    simp only [execOp, hE.ev hx, hn, Sem.run_bind, hg, Result.andThen_ok, run_neq_nil_nil_at w t hi, Sem.run_pure]

open Go.Lib in
def parI (s : List UInt8) : Int × Bool := match parseIntB 64 s with
  | .ok v => (v, false)
  | .range => (Go.Lib.intSat 64 s, true)
  | _ => (0, true)

open Go.Lib in
theorem bs_list (s : List UInt8) : (bs s).data.toList = s := by simp [bs]

open Go.Lib in
theorem ParseInt_64 (a0 : List UInt8) (a1 a2 : Int) (w : World) (hG : Glob2 w) (s0 : a0.length ≤ 1000000000) (s1 : a1 = 10) (s2 : a2 = 64) :
    Calls Tryd.prog 56 #[.string (bs a0), .int .i64 a1, .int .i64 a2] w fun e w' => ∃ er, e = .returned (.tuple #[.int .i64 (parI a0).1, er]) ∧ IsErr er (parI a0).2 ∧ Below w.heap.size w w' := by
  subst s1; subst s2
  have hz := bs_size a0
  have hl := bs_list a0
  cases hp : parseIntB 64 a0 with
  | ok v =>
    refine (show Calls Tryd.prog 56 #[.string (bs a0), .int .i64 10, .int .i64 64] w _ from Any.strconv_ParseInt_10_at64_ok shelf_C174 (bs a0) (by omega) v (by rw [hl]; exact hp) w).mono ?_
    rintro e w' ⟨rfl, h⟩
    unfold parI; rw [hp]
    refine ⟨_, rfl, rfl, ?_⟩
    rcases h with rfl | ⟨t, rfl⟩
    · exact Below.refl _ _
    · exact Go.Lib.bytesWorld_below _ _ _
  | range =>
    obtain ⟨tp, p, hv⟩ := hG.2.1.2
    refine (show Calls Tryd.prog 56 #[.string (bs a0), .int .i64 10, .int .i64 64] w _ from Any.strconv_ParseInt_10_at64_range_var shelf_C174 (bs a0) (by omega) (by rw [hl]; exact hp) tp p w hv).mono ?_
    rintro e w' ⟨N, rfl, _, _, h⟩
    unfold parI; rw [hp]
    rw [hl]
    exact ⟨_, rfl, ⟨_, _, rfl⟩, h⟩
  | _ =>
    obtain ⟨tp, p, hv⟩ := hG.2.1.1
    refine (show Calls Tryd.prog 56 #[.string (bs a0), .int .i64 10, .int .i64 64] w _ from Any.strconv_ParseInt_10_at64_syntax_var shelf_C174 (bs a0) (by omega) (by rw [hl]; exact hp) tp p w hv).mono ?_
    rintro e w' ⟨N, rfl, _, _, h⟩
    unfold parI; rw [hp]
    exact ⟨_, rfl, ⟨_, _, rfl⟩, h⟩

open Go.Lib in
theorem so_txt_alloc (w : World) (t : TypeId) (xs : List (List UInt8)) (h : ∀ x ∈ xs, x.length ≤ 9223372036854775807) (hl : xs.length ≤ 1000000000000) : So eTxt (w.alloc (.cells (xs.map fun x => Value.string (bs x)).toArray t)) (Fr w (w.alloc (.cells (xs.map fun x => Value.string (bs x)).toArray t))) (some ⟨w.heap.size, 0, none⟩) xs.length xs := by
  refine ⟨Nat.le_refl _, by unfold maxLen; omega, fun _ => ⟨w.heap.size, 0, t, (xs.map fun x => Value.string (bs x)).toArray, fun _ _ => False, rfl, ⟨Nat.le_refl _, by simp⟩, Blk.new _ _ _, fun _ _ h => h.elim, fun _ _ _ h => h.elim, fun i x hx => ⟨[.string (bs x)], ⟨rfl, h x (List.mem_of_getElem? hx)⟩, fun j v hj => ?_⟩⟩⟩
  match j, hj with
  | 0, hj =>
    simp only [List.getElem?_cons_zero, Option.some.injEq] at hj
    subst hj
    simp [eTxt, hx]

open Go.Lib in
theorem split_bs (c : UInt8) (s : List UInt8) : (splitB (bs [c]) 0 (countB (bs s) (bs [c])) (bs s)).map Value.string = (splitR c s).map fun x => Value.string (bs x) := by
  have h1 := splitB_data (bs [c]) 0 (countB (bs s) (bs [c])) (bs s)
  have h2 : countB (bs s) (bs [c]) = count s [c] := by unfold countB; rw [bs_list, bs_list]
  rw [bs_list, bs_list, h2, split_one] at h1
  rw [← h1, List.map_map, h2]
  exact List.map_congr_left fun x _ => by simp [bs_eta]

open Go.Lib in
theorem split_count (c : UInt8) (s : List UInt8) : countB (bs s) (bs [c]) + 1 = (splitR c s).length := by
  have h := congrArg List.length (split_bs c s)
  rw [List.length_map, List.length_map, splitB_all (bs [c]) (by rw [bs_size]; simp) 0 _ (bs s) rfl] at h
  exact h

open Go.Lib in
theorem Split_1 (a0 a1 : List UInt8) (c : UInt8) (w : World) (hG : Glob2 w) (s0 : a0.length ≤ 1000000000) (s1 : a1 = [c]) :
    Calls Tryd.prog 20 #[.string (bs a0), .string (bs a1)] w fun e w' => ∃ A' c', e = .returned (.slice A' (splitR c a0).length c') ∧ So eTxt w' (Fr w w') A' c' (splitR c a0) ∧ Below w.heap.size w w' := by
  subst s1
  have hz := bs_size a0
  have h1 := splitR_len c a0
  obtain ⟨m, hm⟩ := hG.2.2
  refine (show Calls Tryd.prog 20 #[.string (bs a0), .string (bs [c])] w _ from Any.strings_Split shelf_146 (by kernel_rfl) (bs a0) (bs [c]) m w (by omega) hm (by rw [bs_size]; simp)).mono ?_
  rintro e w' ⟨rfl, rfl⟩
  rw [split_bs, split_count]
  exact ⟨_, _, rfl, so_txt_alloc w _ _ (fun x hx => by have := splitR_piece c a0 x hx; omega) (by omega), (Below.refl _ w).alloc (Nat.le_refl _) _⟩

open Go.Lib in
theorem TrimMinus (a0 a1 : List UInt8) (w : World) (s1 : a1 = [45]) :
    Calls Tryd.prog 58 #[.string (bs a0), .string (bs a1)] w fun e w' => e = .returned (.string (bs (unsg a0))) ∧ Below w.heap.size w w' := by
  subst s1
  refine (show Calls Tryd.prog 58 #[.string (bs a0), .string (bs [45])] w _ from Any.strings_TrimPrefix shelf_101 (bs a0) (bs [45]) w).mono ?_
  rintro e w' ⟨rfl, rfl⟩
  refine ⟨?_, Below.refl _ _⟩
  rw [bs_list, bs_list]
  have : trimPrefix a0 [45] = unsg a0 := by
    unfold trimPrefix unsg
    cases a0 with
    | nil => simp [hasPrefix]
    | cons x r =>
      by_cases h : x = 45
      · subst h; simp [hasPrefix, List.isPrefixOf]
      · have h2 : ¬ (45 : UInt8) = x := fun e => h e.symm
        simp [hasPrefix, h, h2, List.isPrefixOf]
  rw [this]

open Go.Lib in
theorem ReplaceAll_1 (a0 a1 a2 : List UInt8) (c d : UInt8) (w : World) (hG : Glob2 w) (s0 : a0.length ≤ 1000000000) (s1 : a1 = [c]) (s2 : a2 = [d]) (s3 : ¬ c = d) :
    Calls Tryd.prog 33 #[.string (bs a0), .string (bs a1), .string (bs a2)] w fun e w' => e = .returned (.string (bs (subB c d a0))) ∧ Below w.heap.size w w' := by
  subst s1; subst s2
  have hz := bs_size a0
  obtain ⟨m, hm⟩ := hG.2.2
  have hc := countB_le (bs [c]) (by rw [bs_size]; simp) (bs a0).size (bs a0) (Nat.le_refl _)
  refine (show Calls Tryd.prog 33 #[.string (bs a0), .string (bs [c]), .string (bs [d])] w _ from Any.strings_ReplaceAll shelf_155 shelf_X_Builder_Extra_155 (bs a0) (bs [c]) (bs [d]) m w (by omega) hm (by rw [bs_size]; simp) (by rw [bs_size [d]]; simp only [List.length_cons, List.length_nil]; omega)).mono ?_
  rintro e w' ⟨rfl, h⟩
  rw [bs_list, bs_list, bs_list, replaceAll_one s3]
  exact ⟨rfl, h⟩

open Go.Lib in
theorem unsg_len (s : List UInt8) : (unsg s).length ≤ s.length := by
  unfold unsg; split
  · simp
  · exact Nat.le_refl _

open Go.Lib in
theorem subB_len (a b : UInt8) (s : List UInt8) : (subB a b s).length = s.length := by simp [subB]

open Go.Lib in
theorem parI_bd {s : List UInt8} (h : (parI s).2 = false) : -9223372036854775808 ≤ (parI s).1 ∧ (parI s).1 ≤ 9223372036854775807 := by
  unfold parI at h ⊢
  cases hp : parseIntB 64 s with
  | ok v => have := parseIntB_bounds hp; rw [hp] at h; simp only; omega
  | _ => rw [hp] at h; exact absurd h (by simp)

open Go.Lib in
theorem numR_def (s : List UInt8) : numR s = if (parI s).2 = true then (0, false) else if Go.Lib.itoa (parI s).1 = s ∧ (unsg s).length ≤ 18 then ((parI s).1, true) else (0, false) := by
  unfold numR parI
  cases hp : parseIntB 64 s with
  | ok v => simp
  | _ => simp

open Go.Lib in
theorem numC_bd (s : List UInt8) : -1000000000000000000 < (numC s).1 ∧ (numC s).1 < 1000000000000000000 := by
  unfold numC
  split
  · rename_i h; exact (itoa_num h).2
  · decide

open Go.Lib in
theorem numR_bd (s : List UInt8) : -1000000000000000000 < (numR s).1 ∧ (numR s).1 < 1000000000000000000 := by rw [numR_eq]; exact numC_bd s

open Go.Lib in
def preP (p : List UInt8) : List (List UInt8) → List (List UInt8)
  | [] => [p]
  | q :: r => (p ++ q) :: r

open Go.Lib in
theorem spl_ne {c : UInt8} {s : List UInt8} {l : List (List UInt8)} {j : Int} {k : Nat} (h : splitR c s = l ++ preP ((s.drop j.toNat).take (k - j.toNat)) (splitR c (s.drop k))) (hk : k < s.length) (hj : 0 ≤ j ∧ j ≤ (k : Int)) (hn : ¬ s[k] = c) : splitR c s = l ++ preP ((s.drop j.toNat).take (k + 1 - j.toNat)) (splitR c (s.drop (k + 1))) := by
  rw [h]
  congr 1
  obtain ⟨p, r, e⟩ := splitR_some c (s.drop (k + 1))
  have e2 : (s.drop j.toNat).take (k + 1 - j.toNat) = (s.drop j.toNat).take (k - j.toNat) ++ [s[k]] := by
    rw [show k + 1 - j.toNat = (k - j.toNat) + 1 from by omega, List.take_succ_eq_append_getElem (by rw [List.length_drop]; omega), List.getElem_drop]
    congr 3
    omega
  rw [List.drop_eq_getElem_cons hk, splitR_ne hn e, e, e2, preP, preP]
  simp

open Go.Lib in
theorem spl_eq {c : UInt8} {s : List UInt8} {l : List (List UInt8)} {j : Int} {k : Nat} (h : splitR c s = l ++ preP ((s.drop j.toNat).take (k - j.toNat)) (splitR c (s.drop k))) (hk : k < s.length) (he : s[k] = c) : splitR c s = (l ++ [(s.drop j.toNat).take (k - j.toNat)]) ++ preP ((s.drop ((k : Int) + 1).toNat).take (k + 1 - ((k : Int) + 1).toNat)) (splitR c (s.drop (k + 1))) := by
  rw [h]
  obtain ⟨p, r, e⟩ := splitR_some c (s.drop (k + 1))
  rw [List.drop_eq_getElem_cons hk, he, splitR_eq, e, show k + 1 - ((k : Int) + 1).toNat = 0 from by omega, List.take_zero, preP, preP]
  simp

open Go.Lib in
theorem spl_end {c : UInt8} {s : List UInt8} {l : List (List UInt8)} {j : Int} {k : Nat} (h : splitR c s = l ++ preP ((s.drop j.toNat).take (k - j.toNat)) (splitR c (s.drop k))) (hk : k = s.length) : splitR c s = l ++ [s.drop j.toNat] := by
  rw [h]
  rw [List.drop_eq_nil_of_le (by omega : s.length ≤ k), splitR_nil, preP, List.append_nil, List.take_of_length_le (by rw [List.length_drop]; omega)]

open Go.Lib in
theorem spl_zero (c : UInt8) (s : List UInt8) : splitR c s = [] ++ preP ((s.drop (0 : Int).toNat).take (0 - (0 : Int).toNat)) (splitR c (s.drop 0)) := by
  obtain ⟨p, r, e⟩ := splitR_some c s
  simp [preP, e]

open Go.Lib in
/-- The place of the first digit. -/
def ofP (s : List UInt8) : Nat := if s.head? = some 45 then 1 else 0

open Go.Lib in
theorem unsg_drop (s : List UInt8) : unsg s = s.drop (ofP s) := by
  unfold unsg ofP; split
  · simp
  · rw [List.drop_zero]

open Go.Lib in
theorem ofP_neg {s : List UInt8} {e : UInt8} (h : 0 < s.length) (he : e = s[0]) (h45 : (e.toNat : Int) = 45) : ofP s = 1 := by
  have : e = 45 := UInt8.toNat_inj.1 (by have : (45 : UInt8).toNat = 45 := rfl; omega)
  unfold ofP
  cases s with
  | nil => simp at h
  | cons x r => simp only [List.getElem_cons_zero] at he; rw [← he, this]; rfl

open Go.Lib in
theorem ofP_pos {s : List UInt8} {e : UInt8} (h : 0 < s.length) (he : e = s[0]) (h45 : ¬ (e.toNat : Int) = 45) : ofP s = 0 := by
  unfold ofP
  cases s with
  | nil => simp at h
  | cons x r =>
    simp only [List.getElem_cons_zero] at he
    rw [if_neg]
    intro h2
    simp only [List.head?_cons, Option.some.injEq] at h2
    apply h45
    rw [he, h2]; rfl

open Go.Lib in
theorem ofP_nil {s : List UInt8} (h : ¬ 0 < s.length) : ofP s = 0 := by
  have : s = [] := List.eq_nil_of_length_eq_zero (by omega)
  subst this; rfl

open Go.Lib in
/-- The digits from the first one up to i. -/
def dgs (s : List UInt8) (i : Nat) : List UInt8 := (s.drop (ofP s)).take (i - ofP s)

open Go.Lib in
theorem dgs_step {s : List UInt8} {i : Nat} {e : UInt8} (h0 : ofP s ≤ i) (h1 : i < s.length) (he : e = s[i]) : dgs s (i + 1) = dgs s i ++ [e] := by
  unfold dgs
  rw [show i + 1 - ofP s = (i - ofP s) + 1 from by omega, List.take_succ_eq_append_getElem (by rw [List.length_drop]; omega), List.getElem_drop, he]
  congr 3
  omega

open Go.Lib in
theorem dgs_all {s : List UInt8} {i : Nat} {e : UInt8} (h : (dgs s i).all isDg = true) (h0 : ofP s ≤ i) (h1 : i < s.length) (he : e = s[i]) (hd : 48 ≤ (e.toNat : Int) ∧ (e.toNat : Int) ≤ 57) : (dgs s (i + 1)).all isDg = true := by
  rw [dgs_step h0 h1 he, List.all_append, h]
  simp only [List.all_cons, List.all_nil, Bool.and_true, Bool.true_and]
  exact isDg_iff.2 (by omega)

open Go.Lib in
theorem dgs_bd {s : List UInt8} {i : Nat} (h : (dgs s i).all isDg = true) (h1 : i < s.length) (h2 : s.length ≤ ofP s + 18) : valD 0 (dgs s i) < 100000000000000000 := by
  refine Nat.lt_of_lt_of_le (valD_lt _ 0 h) ?_
  have h3 : (dgs s i).length ≤ 17 := by unfold dgs; rw [List.length_take]; omega
  have := Nat.pow_le_pow_right (n := 10) (by omega) h3
  omega

open Go.Lib in
theorem dgs_full {s : List UInt8} {i : Nat} (h : s.length ≤ i) : dgs s i = unsg s := by
  unfold dgs; rw [unsg_drop, List.take_of_length_le (by rw [List.length_drop]; omega)]

open Go.Lib in
theorem numC_bad {s : List UInt8} (h : okNum s = false) : numC s = (0, false) := by unfold numC; rw [h]; rfl

open Go.Lib in
theorem numC_len0 {s : List UInt8} (h : s.length = ofP s) : numC s = (0, false) := by
  refine numC_bad ?_
  cases hq : okNum s with
  | false => rfl
  | true =>
    have h1 := ((okNum_iff s).1 hq).1
    rw [unsg_drop, List.drop_eq_nil_of_le (by omega)] at h1
    exact absurd rfl h1

end Go.Proofs.YtcfdkckchbdafaaDoor
