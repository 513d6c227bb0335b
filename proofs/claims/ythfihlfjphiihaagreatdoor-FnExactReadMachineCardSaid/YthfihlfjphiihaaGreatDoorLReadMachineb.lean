/- What the proof of FnExactReadMachine needs: contracts of the functions that it reaches, each once. -/
import Derived.Test.YthfihlfjphiihaaGreatDoorProg
import Derived.Test.YthfihlfjphiihaaGreatDoorQMem
import Derived.Test.YthfihlfjphiihaaGreatDoorQOpen
import Derived.Test.YthfihlfjphiihaaGreatDoorLReadMachinea
import Derived.WalkKit
import Derived.WalkSpells
import Derived.Below
import Derived.LoopTactic
import Derived.Outline
import Derived.Deep.QuietTactic
import Derived.BigQuiet
import Derived.Deep.LoopGhost
import Derived.Handy
import Derived.Lib.Hide
import Derived.Shelf.Abstract
import Derived.StillTailTactics
import Derived.OwnWalk
import Derived.Maps.AppendAt
import Derived.RegionTactic
import Derived.Deep.RegionHeld3
import Derived.IntWalk
import Derived.Deep.Upon
import Derived.Laws.OwnMore
import Derived.Maps.AppendAt
import Derived.Laws.Small
import Derived.Laws.BytesString
import Derived.Laws.Strings
import Derived.Lib.Bytes
import Derived.Lib.Strings
import Derived.Lib.FrozenHead
import Derived.Lib.RuneBytes
import Derived.Lib.LaidTab
import Derived.Laws.StructEq
import Derived.Lib.MapLaws
import Derived.Lib.OthersKept
import Derived.Laws.RangeAny
import Derived.Scope
import Derived.RangeFuncNested
import Derived.RangeFuncBound
import Derived.RangeFuncCalls
import Derived.RangeFuncLeaves
import Derived.OwnWalkIn
import Derived.TacticsInMore
import Derived.Lib.ItoaLen
import Derived.Lib.Join
import Derived.Shelf.Strconv.Itoa4
import Derived.Shelf.Strings.OnBuilder
import Derived.Shelf.Strings.BuilderK
import Derived.Shelf.Strings.BuilderRune
import Derived.Shelf.LaysM
import Derived.Ground.NamesProg
import Derived.Lib.ParseIntBTie
import Derived.Lib.SplitLaws
import Derived.Lib.Replace
import Derived.Shelf.LaysC
import Derived.Shelf.Strconv.ErrVarParseInt
import Derived.Shelf.Strconv.ParseIntPublic10
import Derived.Shelf.Strings.Prefix
import Derived.Shelf.Strings.Cut
import Derived.Shelf.Strings.Split
import Derived.Shelf.Strings.Replace
import Derived.Shelf.Small.Wraps
import Derived.Stop.IfaceNil
import Derived.Shelf.Small.Utf8
import Derived.Shelf.Strings.Runes
import Derived.Lib.IndexAny
import Derived.Shelf.Strings.IndexAnyAll
namespace Go.Proofs.YthfihlfjphiihaaGreatDoor
open Go.RowKit

theorem Held.oldM {M : Nat → Prop} {w0 : World} {rs : List Res} {w : World} {α : Type} {E : Enc α} {A : Option Addr} {c : Nat} {xs : List α} (h : Held M w0 rs w) (hs : Sl E w0 (Out M w0) A c xs) : Sl E w (Old w) A c xs :=
  (hs.keep (fun p hp => World.cell?_of_block (w := w0) (h.chg.block p.block hp.1 hp.2))).more fun b hb => Nat.lt_of_lt_of_le hb.1 h.chg.size

theorem Held.oldRM {M : Nat → Prop} {w0 : World} {rs : List Res} {w : World} {α : Type} {E : Enc α} {cs : List Value} {x : α} (h : Held M w0 rs w) (hs : E.R w0 (Out M w0) cs x) : E.R w (Old w) cs x :=
  E.more (E.keep hs (fun p hp => World.cell?_of_block (w := w0) (h.chg.block p.block hp.1 hp.2))) fun b hb => Nat.lt_of_lt_of_le hb.1 h.chg.size

/-- A borrowed slice, as a callee that rewrites xs sees it. -/
theorem Held.lend {w0 : World} {xs rs : List Res} {w : World} {α : Type} {E : Enc α} {A : Option Addr} {c : Nat} {zs : List α} (h : Held Nob w0 (xs ++ rs) w) (hs : Sl E w0 (Old w0) A c zs) : Sl E w (Out (Foot xs) w) A c zs :=
  (hs.keep (fun p hp => h.cell0 hp fun h => h)).more fun b hb => ⟨Nat.lt_of_lt_of_le hb h.size, by
    rintro ⟨r, hr, hb'⟩
    rcases (h.rng r (by simp [hr]) b hb').1 with q | q
    · exact q.elim
    · have : b < w0.heap.size := hb
      omega⟩

theorem Held.lendM {M : Nat → Prop} {w0 : World} {xs rs : List Res} {w : World} {α : Type} {E : Enc α} {A : Option Addr} {c : Nat} {zs : List α} (h : Held M w0 (xs ++ rs) w) (hs : Sl E w0 (Out M w0) A c zs) : Sl E w (Out (Foot xs) w) A c zs :=
  (hs.keep (fun p hp => h.cell0 hp.1 hp.2)).more fun b hb => ⟨Nat.lt_of_lt_of_le hb.1 h.size, by
    rintro ⟨r, hr, hb'⟩
    rcases (h.rng r (by simp [hr]) b hb').1 with q | q
    · exact hb.2 q
    · have : b < w0.heap.size := hb.1
      omega⟩

/-- A part that is owned, as a callee that rewrites other parts sees it. -/
theorem Held.lendR {M : Nat → Prop} {w0 : World} {xs rs : List Res} {w : World} {α : Type} {E : Enc α} {S : Nat → Prop} {cs : List Value} {x : α} (h : Held M w0 (xs ++ rs) w) {i : Nat} (hi : rs[i]? = some (rO E S cs x)) : E.R w (Out (Foot xs) w) cs x :=
  E.more (E.read (h.ok _ (List.mem_append_right _ (List.mem_of_getElem? hi)))) fun b hb => ⟨(h.rng _ (List.mem_append_right _ (List.mem_of_getElem? hi)) b hb).2, by
    rintro ⟨r, hr, hb'⟩
    exact (List.pairwise_append.1 h.sep).2.2 r hr _ (List.mem_of_getElem? hi) b hb' hb⟩

theorem Held.lendO {w0 : World} {xs rs : List Res} {w : World} {α : Type} {E : Enc α} {cs : List Value} {x : α} (h : Held Nob w0 (xs ++ rs) w) (hs : E.R w0 (Old w0) cs x) : E.R w (Out (Foot xs) w) cs x :=
  E.more (E.keep hs (fun p hp => h.cell0 hp fun h => h)) fun b hb => ⟨Nat.lt_of_lt_of_le hb h.size, by
    rintro ⟨r, hr, hb'⟩
    rcases (h.rng r (by simp [hr]) b hb').1 with q | q
    · exact q.elim
    · have : b < w0.heap.size := hb
      omega⟩

theorem Held.lendOM {M : Nat → Prop} {w0 : World} {xs rs : List Res} {w : World} {α : Type} {E : Enc α} {cs : List Value} {x : α} (h : Held M w0 (xs ++ rs) w) (hs : E.R w0 (Out M w0) cs x) : E.R w (Out (Foot xs) w) cs x :=
  E.more (E.keep hs (fun p hp => h.cell0 hp.1 hp.2)) fun b hb => ⟨Nat.lt_of_lt_of_le hb.1 h.size, by
    rintro ⟨r, hr, hb'⟩
    rcases (h.rng r (by simp [hr]) b hb').1 with q | q
    · exact hb.2 q
    · have : b < w0.heap.size := hb.1
      omega⟩

theorem Held.nfB {M : Nat → Prop} {w0 : World} {xs rs : List Res} {w : World} (h : Held M w0 (xs ++ rs) w) {i g : Nat} {t : TypeId} {cs : List Value} (hi : rs[i]? = some (rBlk g t cs)) : ¬ Foot xs g := by
  rintro ⟨r, hr, hb'⟩
  exact (List.pairwise_append.1 h.sep).2.2 r hr _ (List.mem_of_getElem? hi) g hb' rfl

theorem block_of_cell {w : World} {b o : Nat} {v : Value} (h : w.cell? ⟨b, o, none⟩ = some v) : b < w.heap.size := by
  rcases Nat.lt_or_ge b w.heap.size with h1 | h1
  · exact h1
  · exfalso
    unfold World.cell? at h
    simp [Array.getElem?_eq_none h1] at h

theorem Held.nfO {w0 : World} {xs rs : List Res} {w : World} (h : Held Nob w0 (xs ++ rs) w) {b o : Nat} {v : Value} (hc : w0.cell? ⟨b, o, none⟩ = some v) : ¬ Foot xs b := by
  rintro ⟨r, hr, hb'⟩
  rcases (h.rng r (by simp [hr]) b hb').1 with q | q
  · exact q.elim
  · have := block_of_cell hc
    omega

theorem Held.nfOM {M : Nat → Prop} {w0 : World} {xs rs : List Res} {w : World} (h : Held M w0 (xs ++ rs) w) {b o : Nat} {v : Value} (hM : ¬ M b) (hc : w0.cell? ⟨b, o, none⟩ = some v) : ¬ Foot xs b := by
  rintro ⟨r, hr, hb'⟩
  rcases (h.rng r (by simp [hr]) b hb').1 with q | q
  · exact hM q
  · have := block_of_cell hc
    omega

theorem el_oldM {M : Nat → Prop} {w0 : World} {α : Type} {E : Enc α} {A : Option Addr} {c : Nat} {xs : List α} (h : Sl E w0 (Out M w0) A c xs) {k : Nat} (hk : k < xs.length) :
    ∃ b off es, A = some ⟨b, off, none⟩ ∧ E.R w0 (Out M w0) es xs[k] ∧ (∀ j v, es[j]? = some v → w0.cell? ⟨b, off + k * E.size + j, none⟩ = some v) ∧ ¬ M b := by
  obtain ⟨b, off, es, h1, hb, h2, h3⟩ := h.at hk
  exact ⟨b, off, es, h1, h2, h3, hb.2⟩

theorem c_oldM {M : Nat → Prop} {w0 : World} {rs : List Res} {b o : Nat} {v : Value} (hM : ¬ M b) (hc : w0.cell? ⟨b, o, none⟩ = some v) : ∀ w, Held M w0 rs w → w.cell? ⟨b, o, none⟩ = some v := fun w h => by
  rw [h.cell0 (lt_of_cell hc) hM]; exact hc

theorem c_oldNM {M : Nat → Prop} {w0 : World} {rs : List Res} {b o : Nat} {cs : List Value} (hM : ¬ M b) (hc : ∀ j v, cs[j]? = some v → w0.cell? ⟨b, o + j, none⟩ = some v) : ∀ w, Held M w0 rs w → ∀ j v, cs[j]? = some v → w.cell? ⟨b, o + j, none⟩ = some v := fun w h j v hv => c_oldM hM (hc j v hv) w h

/-- The flat part in front given up. -/
theorem Held.unF {M : Nat → Prop} {w0 : World} {rs : List Res} {w : World} {α β : Type} {E : Enc α} {F : Enc β} {S : Nat → Prop} {v : Value} {cs : List Value} {x : α × β} (h1 : E.size = 1) (h : Held M w0 (rO (ePr E F) S (v :: cs) x :: rs) w) : Held M w0 (rO F S cs x.2 :: rs) w := by
  refine h.turn _ ?_ fun _ hb => hb
  rintro ⟨c1, c2, S1, S2, he, k1, k2, o1, o2⟩
  have hl := E.len (E.read o1)
  rw [h1] at hl
  obtain ⟨u, rfl⟩ := List.length_eq_one_iff.1 hl
  simp at he
  obtain ⟨_, rfl⟩ := he
  exact F.omore o2 k2

theorem Held.unP {M : Nat → Prop} {w0 : World} {rs : List Res} {w : World} {α β : Type} {E : Enc α} {F : Enc β} {S : Nat → Prop} {v : Value} {cs : List Value} {x : α × β} (h1 : E.size = 1) (h : Held M w0 (rO (ePr E F) S (v :: cs) x :: rs) w) : ∃ S1 S2, Held M w0 (rO E S1 [v] x.1 :: rO F S2 cs x.2 :: rs) w := by
  obtain ⟨c1, c2, S1, S2, he, k1, k2, o1, o2⟩ := h.ok _ (List.mem_cons_self)
  have hl := E.len (E.read o1)
  rw [h1] at hl
  obtain ⟨u, rfl⟩ := List.length_eq_one_iff.1 hl
  simp at he
  obtain ⟨rfl, rfl⟩ := he
  have hs := List.pairwise_cons.1 h.sep
  refine ⟨S1, S2, h.chg, ?_, ?_, ?_⟩
  · intro r hr
    simp only [List.mem_cons] at hr
    rcases hr with rfl | rfl | hr
    · exact o1
    · exact o2
    · exact h.ok r (by simp [hr])
  · intro r hr b hb
    simp only [List.mem_cons] at hr
    rcases hr with rfl | rfl | hr
    · exact h.rng _ (List.mem_cons_self) b (k1 b hb).1
    · exact h.rng _ (List.mem_cons_self) b (k2 b hb)
    · exact h.rng r (by simp [hr]) b hb
  · refine List.pairwise_cons.2 ⟨fun r hr b hb hb' => ?_, List.pairwise_cons.2 ⟨fun r hr b hb hb' => hs.1 r hr b (k2 b hb) hb', hs.2⟩⟩
    rcases List.mem_cons.1 hr with rfl | hr
    · exact (k1 b hb).2 hb'
    · exact hs.1 r hr b (k1 b hb).1 hb'

/-- An owned slice with one element laid open: its cells es; what the element owns (T) is held apart. -/
def Foc {α : Type} (E : Enc α) (w : World) (S : Nat → Prop) (b off c : Nat) (xs : List α) (k : Nat) (es : List Value) : Prop :=
  k < xs.length ∧ xs.length ≤ c ∧ c ≤ maxLen ∧ S b ∧ es.length = E.size ∧ ∃ (t : TypeId) (cur : Array Value) (T : Nat → Nat → Prop), Blk w b t cur ∧ (∀ i m, T i m → S m ∧ m ≠ b) ∧ (∀ i j m, T i m → T j m → i = j) ∧
    (∀ j v, es[j]? = some v → cur[off + k * E.size + j]? = some v) ∧ ∀ (i : Nat) (x : α), i ≠ k → xs[i]? = some x → ∃ us, E.O w (T i) us x ∧ ∀ j v, us[j]? = some v → cur[off + i * E.size + j]? = some v

theorem Foc.keep {α : Type} {E : Enc α} {w w' : World} {S : Nat → Prop} {b off c : Nat} {xs : List α} {k : Nat} {es : List Value} (h : Foc E w S b off c xs k es) (hk : ∀ b, S b → w'.heap[b]? = w.heap[b]?) : Foc E w' S b off c xs k es := by
  obtain ⟨h1, h2, h3, h4, h5, t, cur, T, hB, hT, hd, hc, hr⟩ := h
  refine ⟨h1, h2, h3, h4, h5, t, cur, T, (hk b h4).trans hB, hT, hd, hc, fun i x hi hx => ?_⟩
  obtain ⟨us, q1, q2⟩ := hr i x hi hx
  exact ⟨us, E.okeep q1 fun m hm => hk m (hT i m hm).1, q2⟩

def rFoc {α : Type} (E : Enc α) (S : Nat → Prop) (b off c : Nat) (xs : List α) (k : Nat) (es : List Value) : Res := ⟨S, fun w => Foc E w S b off c xs k es, fun _ _ h hf => hf.keep h⟩

theorem Held.open {M : Nat → Prop} {w0 : World} {rs : List Res} {w : World} {α : Type} {E : Enc α} {S : Nat → Prop} {A : Option Addr} {c : Nat} {xs : List α} (h : Held M w0 (rSo E S A c xs :: rs) w) {k : Nat} (hk : k < xs.length) :
    ∃ b off es T, A = some ⟨b, off, none⟩ ∧ E.R w (Old w) es xs[k] ∧ (∀ m, T m → S m ∧ m ≠ b) ∧ Held M w0 (rFoc E (fun m => S m ∧ ¬ T m) b off c xs k es :: rO E T es xs[k] :: rs) w := by
  have hso := so_of_o (h.ok _ (List.mem_cons_self))
  have hrng := h.rng _ (List.mem_cons_self)
  obtain ⟨b, off, t, cur, T, hA, hb, hB, hT, hd, hc⟩ := hso.2.2 (by intro e; subst e; simp at hk)
  obtain ⟨es, h1, h2⟩ := hc k xs[k] (List.getElem?_eq_getElem hk)
  have hs := List.pairwise_cons.1 h.sep
  refine ⟨b, off, es, T k, hA, E.more (E.read h1) (fun m hm => (hrng m (hT k m hm).1).2), fun m hm => hT k m hm, h.chg, ?_, ?_, ?_⟩
  · intro r hr
    simp only [List.mem_cons] at hr
    rcases hr with rfl | rfl | hr
    · refine ⟨hk, hso.1, hso.2.1, ⟨hb, fun hm => (hT k b hm).2 rfl⟩, E.len (E.read h1), t, cur, fun i m => i ≠ k ∧ T i m, hB, fun i m hm => ⟨⟨(hT i m hm.2).1, fun hm' => hm.1 (hd i k m hm.2 hm')⟩, (hT i m hm.2).2⟩, fun i j m h3 h4 => hd i j m h3.2 h4.2, h2, fun i x hi hx => ?_⟩
      obtain ⟨us, q1, q2⟩ := hc i x hx
      exact ⟨us, E.omore q1 fun m hm => ⟨hi, hm⟩, q2⟩
    · exact h1
    · exact h.ok r (by simp [hr])
  · intro r hr m hm
    simp only [List.mem_cons] at hr
    rcases hr with rfl | rfl | hr
    · exact hrng m hm.1
    · exact hrng m (hT k m hm).1
    · exact h.rng r (by simp [hr]) m hm
  · refine List.pairwise_cons.2 ⟨fun r hr m hm hm' => ?_, List.pairwise_cons.2 ⟨fun r hr m hm hm' => hs.1 r hr m (hT k m hm).1 hm', hs.2⟩⟩
    rcases List.mem_cons.1 hr with rfl | hr
    · exact hm.2 hm'
    · exact hs.1 r hr m hm.1 hm'

theorem Held.shut {M : Nat → Prop} {w0 : World} {rs : List Res} {w : World} {α : Type} {E : Enc α} {S T : Nat → Prop} {b off c k : Nat} {xs : List α} {es : List Value} {y : α} (h : Held M w0 (rFoc E S b off c xs k es :: rO E T es y :: rs) w) : Held M w0 (rSo E (fun m => S m ∨ T m) (some ⟨b, off, none⟩) c (xs.set k y) :: rs) w := by
  refine h.join _ (fun hf ho hd => ?_) fun _ hb => hb
  obtain ⟨h1, h2, h3, h4, h5, t, cur, T', hB, hT, hd', hc, hr⟩ := hf
  refine oSl ⟨by rw [List.length_set]; exact h2, h3, fun _ => ⟨b, off, t, cur, fun i m => (i = k ∧ T m) ∨ (i ≠ k ∧ T' i m), rfl, .inl h4, hB, ?_, ?_, fun i x hx => ?_⟩⟩
  · rintro i m (⟨_, hm⟩ | ⟨_, hm⟩)
    · exact ⟨.inr hm, fun e => hd b h4 (e ▸ hm)⟩
    · exact ⟨.inl (hT i m hm).1, (hT i m hm).2⟩
  · rintro i j m (⟨hi, hm⟩ | ⟨hi, hm⟩) (⟨hj, hm'⟩ | ⟨hj, hm'⟩)
    · rw [hi, hj]
    · exact absurd hm (hd m (hT j m hm').1)
    · exact absurd hm' (hd m (hT i m hm).1)
    · exact hd' i j m hm hm'
  · by_cases e : i = k
    · subst e
      rw [List.getElem?_set_self h1] at hx
      simp at hx; subst hx
      exact ⟨es, E.omore ho fun m hm => .inl ⟨rfl, hm⟩, hc⟩
    · rw [List.getElem?_set_ne (fun h => e h.symm)] at hx
      obtain ⟨us, q1, q2⟩ := hr i x e hx
      exact ⟨us, E.omore q1 fun m hm => .inr ⟨e, hm⟩, q2⟩

theorem Held.relen {M : Nat → Prop} {w0 : World} {rs : List Res} {w : World} {α : Type} {E : Enc α} {S : Nat → Prop} {A : Option Addr} {c n : Nat} {xs : List α} (h : Held M w0 (rSo E S A c xs :: rs) w) (hn : xs.length = n) : Held M w0 (rO (eSl E) S [.slice A n c] xs :: rs) w := hn ▸ h

theorem Held.lt {M : Nat → Prop} {w0 : World} {rs : List Res} {w : World} (h : Held M w0 rs w) {i : Nat} {r : Res} (hi : rs[i]? = some r) : ∀ b, r.S b → b < w.heap.size := fun b hb => (h.rng r (List.mem_of_getElem? hi) b hb).2

theorem x_bneq {P : Program} {S : World → Prop} {L : List (Nat × Value)} {d : Option Tmp} {t t' : TypeId} {x y : Operand} {m k : Bool} {ty : TypeId} {pos : String} {af : Array Edge} {g : Option (Nat × Bool)} (ht : P.underlying t = some .bool) (hx : ev L x = some (.bool m)) (hy : ev L y = some (.bool k)) : XS P S L ⟨d, .binOp .neq t x y t', ty, pos, af, g⟩ (.bool (!(m == k))) := fun _ _ w hE _ => by
  have h := run_equal_bool (P := P) w t m k ht
  simp only [execOp, hE.ev hx, hE.ev hy, eqGuard, binOp, Sem.run_bind]
  simp [h]

/-- What a callee made, beside what is held. -/
theorem Held.app {M : Nat → Prop} {w0 : World} {rs qs : List Res} {w w' : World} (h : Held M w0 rs w) (h' : Held Nob w qs w') : Held M w0 (qs ++ rs) w' where
  chg := (h.on h'.below).chg
  ok := by
    intro r hr
    rcases List.mem_append.1 hr with hr | hr
    · exact h'.ok r hr
    · exact (h.on h'.below).ok r hr
  rng := by
    intro r hr b hb
    rcases List.mem_append.1 hr with hr | hr
    · have h1 := h'.rng r hr b hb
      exact ⟨.inr (Nat.le_trans h.size (h1.1.resolve_left fun q => q.elim)), h1.2⟩
    · exact (h.on h'.below).rng r hr b hb
  sep := by
    refine List.pairwise_append.2 ⟨h'.sep, h.sep, fun r hr s hs b hb hb' => ?_⟩
    have h1 := (h'.rng r hr b hb).1.resolve_left fun q => q.elim
    have h2 := (h.rng s hs b hb').2
    omega

/-- Held only if p holds. -/
def rIf (p : Prop) (r : Res) : Res := ⟨r.S, fun w => p → r.φ w, fun w w' h hp hq => r.loc w w' h (hp hq)⟩

theorem Held.toIf {M : Nat → Prop} {w0 : World} {rs : List Res} {r : Res} {w : World} (h : Held M w0 (r :: rs) w) (p : Prop) : Held M w0 (rIf p r :: rs) w :=
  h.turn (rIf p r) (fun hr _ => hr) fun _ h => h

theorem Held.ofIf {M : Nat → Prop} {w0 : World} {rs : List Res} {r : Res} {w : World} {p : Prop} (h : Held M w0 (rIf p r :: rs) w) (hp : p) : Held M w0 (r :: rs) w :=
  h.turn r (fun hr => hr hp) fun _ h => h

theorem Held.noIf {M : Nat → Prop} {w0 : World} {rs : List Res} {w : World} {p : Prop} (h : Held M w0 rs w) {α : Type} {E : Enc α} {A : Option Addr} {c : Nat} {xs : List α} (r : Res) (hp : ¬ p) (hr : r = rSo E Nob A c xs := by rfl) : Held M w0 (rIf p r :: rs) w := by
  subst hr
  exact h.new (Below.refl _ _) (rIf p (rSo E Nob A c xs)) (fun hq => absurd hq hp) fun _ h => h.elim

/-- n cells, as they are. -/
def eRaw (n : Nat) (hn : 0 < n) : Enc (List Value) where
  size := n
  pos := hn
  R := fun _ _ cs x => cs = x ∧ x.length = n ∧ ∀ v ∈ x, v.oneCell' = true
  len := by rintro _ _ _ _ ⟨rfl, h, _⟩; exact h
  keep := fun h _ => h
  more := fun h _ => h
  O := fun _ _ cs x => cs = x ∧ x.length = n ∧ ∀ v ∈ x, v.oneCell' = true
  read := fun h => h
  okeep := fun h _ => h
  omore := fun h _ => h

/-- What the elements own, each for itself. -/
def Els {α : Type} (E : Enc α) (w : World) : (Nat → Prop) → List (List Value × α) → Prop
  | _, [] => True
  | S, p :: ps => ∃ S1 S2 : Nat → Prop, (∀ b, S1 b → S b ∧ ¬ S2 b) ∧ (∀ b, S2 b → S b) ∧ E.O w S1 p.1 p.2 ∧ Els E w S2 ps

theorem Els.keep {α : Type} {E : Enc α} {w w' : World} : ∀ {ps : List (List Value × α)} {S : Nat → Prop}, Els E w S ps → (∀ b, S b → w'.heap[b]? = w.heap[b]?) → Els E w' S ps
  | [], _, _, _ => trivial
  | _ :: _, _, ⟨S1, S2, h1, h2, h3, h4⟩, hk => ⟨S1, S2, h1, h2, E.okeep h3 fun b hb => hk b (h1 b hb).1, Els.keep h4 fun b hb => hk b (h2 b hb)⟩

theorem Els.more {α : Type} {E : Enc α} {w : World} : ∀ {ps : List (List Value × α)} {S S' : Nat → Prop}, Els E w S ps → (∀ b, S b → S' b) → Els E w S' ps
  | [], _, _, _, _ => trivial
  | _ :: _, _, _, ⟨S1, S2, h1, h2, h3, h4⟩, hm => ⟨S1, S2, fun b hb => ⟨hm b (h1 b hb).1, (h1 b hb).2⟩, fun b hb => hm b (h2 b hb), h3, h4⟩

theorem Els.perm {α : Type} {E : Enc α} {w : World} {ps qs : List (List Value × α)} (h : ps.Perm qs) : ∀ S, Els E w S ps → Els E w S qs := by
  induction h with
  | nil => exact fun _ h => h
  | cons p _ ih => rintro S ⟨S1, S2, h1, h2, h3, h4⟩; exact ⟨S1, S2, h1, h2, h3, ih _ h4⟩
  | swap p q ps =>
    rintro S ⟨S1, S2, h1, h2, h3, S3, S4, h5, h6, h7, h8⟩
    refine ⟨S3, fun b => S1 b ∨ S4 b, fun b hb => ⟨h2 b (h5 b hb).1, ?_⟩, ?_, h7, S1, S4, fun b hb => ⟨.inl hb, fun h => (h1 b hb).2 (h6 b h)⟩, fun b hb => .inr hb, h3, h8⟩
    · rintro (h | h)
      · exact (h1 b h).2 (h5 b hb).1
      · exact (h5 b hb).2 h
    · rintro b (h | h)
      · exact (h1 b h).1
      · exact h2 b (h6 b h)
  | trans _ _ i1 i2 => exact fun S h => i2 S (i1 S h)

theorem els_of {α : Type} {E : Enc α} {w : World} : ∀ (ps : List (List Value × α)) (T : Nat → Nat → Prop), (∀ i j b, T i b → T j b → i = j) → (∀ i p, ps[i]? = some p → E.O w (T i) p.1 p.2) → Els E w (fun b => ∃ i, T i b) ps
  | [], _, _, _ => trivial
  | p :: ps, T, hd, h => ⟨T 0, fun b => ∃ i, T (i + 1) b, fun b hb => ⟨⟨0, hb⟩, fun ⟨i, hi⟩ => by have := hd _ _ _ hb hi; omega⟩, fun b ⟨i, hi⟩ => ⟨i + 1, hi⟩, h 0 p rfl, els_of ps (fun i => T (i + 1)) (fun i j b h1 h2 => by have := hd _ _ _ h1 h2; omega) fun i q hq => h (i + 1) q (by simpa using hq)⟩

theorem els_fam {α : Type} {E : Enc α} {w : World} : ∀ (ps : List (List Value × α)) (S : Nat → Prop), Els E w S ps → ∃ T : Nat → Nat → Prop, (∀ i b, T i b → S b) ∧ (∀ i j b, T i b → T j b → i = j) ∧ ∀ i p, ps[i]? = some p → E.O w (T i) p.1 p.2
  | [], _, _ => ⟨fun _ _ => False, fun _ _ h => h.elim, fun _ _ _ h => h.elim, fun i p h => by simp at h⟩
  | p :: ps, S, ⟨S1, S2, h1, h2, h3, h4⟩ => by
    obtain ⟨T, t1, t2, t3⟩ := els_fam ps S2 h4
    refine ⟨fun i => match i with | 0 => S1 | i + 1 => T i, fun i b hb => ?_, fun i j b hi hj => ?_, fun i q hq => ?_⟩
    · cases i with
      | zero => exact (h1 b hb).1
      | succ i => exact h2 b (t1 i b hb)
    · cases i with
      | zero =>
        cases j with
        | zero => rfl
        | succ j => exact absurd (t1 j b hj) (h1 b hi).2
      | succ i =>
        cases j with
        | zero => exact absurd (t1 i b hi) (h1 b hj).2
        | succ j => rw [t2 i j b hi hj]
    · cases i with
      | zero => simp at hq; subst hq; exact h3
      | succ i => exact t3 i q (by simpa using hq)

def rEls {α : Type} (E : Enc α) (S : Nat → Prop) (ps : List (List Value × α)) : Res := ⟨S, fun w => Els E w S ps, fun _ _ h hv => hv.keep h⟩

/-- One part becomes two. -/
theorem Held.cleave {M : Nat → Prop} {w0 : World} {r : Res} {rs : List Res} {w : World} (h : Held M w0 (r :: rs) w) (p q : Res) (hp : p.φ w) (hq : q.φ w) (h1 : ∀ b, p.S b → r.S b) (h2 : ∀ b, q.S b → r.S b) (hd : ∀ b, p.S b → ¬ q.S b) : Held M w0 (p :: q :: rs) w where
  chg := h.chg
  ok := by
    intro x hx
    rcases List.mem_cons.1 hx with rfl | hx
    · exact hp
    rcases List.mem_cons.1 hx with rfl | hx
    · exact hq
    exact h.ok x (by simp [hx])
  rng := by
    intro x hx b hb
    rcases List.mem_cons.1 hx with rfl | hx
    · exact h.rng r (by simp) b (h1 b hb)
    rcases List.mem_cons.1 hx with rfl | hx
    · exact h.rng r (by simp) b (h2 b hb)
    exact h.rng x (by simp [hx]) b hb
  sep := by
    have hs := List.pairwise_cons.1 h.sep
    refine List.pairwise_cons.2 ⟨fun x hx b hb hb' => ?_, List.pairwise_cons.2 ⟨fun x hx b hb hb' => hs.1 x hx b (h2 b hb) hb', hs.2⟩⟩
    rcases List.mem_cons.1 hx with rfl | hx
    · exact hd b hb hb'
    · exact hs.1 x hx b (h1 b hb) hb'

/-- A row taken apart. -/
theorem Held.explode {M : Nat → Prop} {w0 : World} {rs : List Res} {w : World} {α : Type} {E : Enc α} {t : TypeId} {S : Nat → Prop} {A : Option Addr} {c : Nat} {xs : List α} (h : Held M w0 (rVec E t S A c xs :: rs) w) (h1 : ∀ w S es x, E.R w S es x → ∀ v ∈ es, v.oneCell' = true) :
    ∃ css S1 S2, List.length css = xs.length ∧ Held M w0 (rVec (eRaw E.size E.pos) t S1 A c css :: rEls E S2 (css.zip xs) :: rs) w := by
  obtain ⟨css, T, hl, ho, hb, hT, hd, hx⟩ := (h.ok _ List.mem_cons_self : Vec E t w S (.slice A xs.length c) xs)
  refine ⟨css, fun b => Value.ownBlock (.slice A xs.length c) = some b, fun b => ∃ i, T i b, hl, h.cleave _ _ ?_ ?_ (fun b hb' => hb b hb') (fun b ⟨i, hi⟩ => (hT i b hi).1) (fun b hb' ⟨i, hi⟩ => (hT i b hi).2 hb')⟩
  · show Vec (eRaw E.size E.pos) t w _ (.slice A css.length c) css
    rw [hl]
    refine ⟨css, fun _ _ => False, rfl, ?_, fun b hb' => hb', fun _ _ h => h.elim, fun _ _ _ h => h.elim, fun i x hi => ⟨x, hi, rfl, ?_⟩⟩
    · rw [hl]; exact ho
    · have hi' := (List.getElem?_eq_some_iff.1 hi).1
      obtain ⟨es, h2, h3⟩ := hx i xs[i] (List.getElem?_eq_getElem (by omega))
      rw [h2] at hi
      obtain rfl := Option.some.inj hi
      exact ⟨E.len (E.read h3), h1 _ _ _ _ (E.read h3)⟩
  · refine els_of _ T hd fun i p hp => ?_
    rw [List.getElem?_zip_eq_some] at hp
    obtain ⟨es, h2, h3⟩ := hx i p.2 hp.2
    rw [h2] at hp
    rw [← Option.some.inj hp.1]; exact h3

/-- .. and put together again. -/
theorem Held.implode {M : Nat → Prop} {w0 : World} {rs : List Res} {w : World} {α : Type} {E : Enc α} {t : TypeId} {S1 S2 : Nat → Prop} {A : Option Addr} {c : Nat} {css : List (List Value)} {xs : List α} {ps : List (List Value × α)} (h : Held M w0 (rVec (eRaw E.size E.pos) t S1 A c css :: rEls E S2 ps :: rs) w) (hl : css.length = xs.length) (hp : ps.Perm (css.zip xs)) :
    ∃ S, Held M w0 (rVec E t S A c xs :: rs) w := by
  refine ⟨fun b => S1 b ∨ S2 b, h.join _ (fun h1 h2 hd => ?_) fun _ hb => hb⟩
  obtain ⟨css', T', hl', ho, hb, _, _, hx⟩ := (h1 : Vec (eRaw E.size E.pos) t w S1 (.slice A css.length c) css)
  have e : css' = css := List.ext_getElem? fun i => by
    rcases Nat.lt_or_ge i css.length with hi | hi
    · obtain ⟨es, h3, h4⟩ := hx i css[i] (List.getElem?_eq_getElem hi)
      rw [h3, List.getElem?_eq_getElem hi, h4.1]
    · rw [List.getElem?_eq_none (by omega), List.getElem?_eq_none hi]
  subst e
  obtain ⟨T, t1, t2, t3⟩ := els_fam _ _ (Els.perm hp _ (h2 : Els E w S2 ps))
  show Vec E t w _ (.slice A xs.length c) xs
  rw [hl] at ho hb
  refine ⟨css', T, hl, ho, fun b hb' => .inl (hb b hb'), fun i b hi => ⟨.inr (t1 i b hi), fun hb' => hd b (hb b hb') (t1 i b hi)⟩, t2, fun i x hi => ?_⟩
  have hi' := (List.getElem?_eq_some_iff.1 hi).1
  have hc : css'[i]? = some css'[i] := List.getElem?_eq_getElem (by omega)
  exact ⟨css'[i], hc, t3 i (css'[i], x) (List.getElem?_zip_eq_some.2 ⟨hc, hi⟩)⟩

/-- The first element's memory, for itself. -/
theorem Held.peel {M : Nat → Prop} {w0 : World} {rs : List Res} {w : World} {α : Type} {E : Enc α} {S : Nat → Prop} {p : List Value × α} {ps : List (List Value × α)} (h : Held M w0 (rEls E S (p :: ps) :: rs) w) : ∃ S1 S2, Held M w0 (rO E S1 p.1 p.2 :: rEls E S2 ps :: rs) w := by
  obtain ⟨S1, S2, h1, h2, h3, h4⟩ := (h.ok _ List.mem_cons_self : Els E w S (p :: ps))
  exact ⟨S1, S2, h.cleave (rO E S1 p.1 p.2) (rEls E S2 ps) h3 h4 (fun b hb => (h1 b hb).1) h2 fun b hb => (h1 b hb).2⟩

theorem Held.unpeel {M : Nat → Prop} {w0 : World} {rs : List Res} {w : World} {α : Type} {E : Enc α} {S1 S2 : Nat → Prop} {p : List Value × α} {ps : List (List Value × α)} (h : Held M w0 (rO E S1 p.1 p.2 :: rEls E S2 ps :: rs) w) : ∃ S, Held M w0 (rEls E S (p :: ps) :: rs) w :=
  ⟨fun b => S1 b ∨ S2 b, h.join (rEls E _ (p :: ps)) (fun h1 h2 hd => ⟨S1, S2, fun b hb => ⟨.inl hb, hd b hb⟩, fun b hb => .inr hb, h1, h2⟩) fun _ hb => hb⟩

theorem Held.elsPerm {M : Nat → Prop} {w0 : World} {rs : List Res} {w : World} {α : Type} {E : Enc α} {S : Nat → Prop} {ps qs : List (List Value × α)} (h : Held M w0 (rEls E S ps :: rs) w) (hp : ps.Perm qs) : Held M w0 (rEls E S qs :: rs) w :=
  h.turn (rEls E S qs) (fun h1 => Els.perm hp _ h1) fun _ hb => hb

theorem Held.exch {M : Nat → Prop} {w0 : World} {rs : List Res} {w : World} (h : Held M w0 rs w) {i : Nat} {r : Res} (hi : rs[i]? = some r) (r' : Res) (hr : r'.φ w) (hS : ∀ b, r'.S b → r.S b) : Held M w0 (rs.set i r') w :=
  h.mut hi (Chg.refl _ _) r' hr fun b hb => .inl (hS b hb)

theorem Held.elsRd {M : Nat → Prop} {w0 : World} {rs : List Res} {w : World} {α : Type} {E : Enc α} {S : Nat → Prop} {ps : List (List Value × α)} (h : Held M w0 rs w) {i : Nat} (hi : rs[i]? = some (rEls E S ps)) {k : Nat} {es : List Value} {x : α} (hk : ps[k]? = some (es, x)) : E.R w (Old w) es x := by
  obtain ⟨T, t1, t2, t3⟩ := els_fam _ _ (h.get hi : Els E w S ps)
  exact E.more (E.read (t3 k (es, x) hk)) fun b hb => (h.rng _ (List.mem_of_getElem? hi) b (t1 k b hb)).2

theorem raw_vec {n : Nat} {hn : 0 < n} {t : TypeId} {w : World} {S : Nat → Prop} {A : Option Addr} {c : Nat} {css : List (List Value)} (h : Vec (eRaw n hn) t w S (.slice A css.length c) css) (h0 : css ≠ []) :
    ∃ (g : Nat) (cur : Array Value), A = some ⟨g, 0, none⟩ ∧ S g ∧ Blk w g t cur ∧ css.length ≤ c ∧ c ≤ maxLen ∧ cur.size = c * n ∧ cur.toList.take (css.length * n) = css.flatten ∧ (∀ es ∈ css, es.length = n ∧ ∀ v ∈ es, v.oneCell' = true) := by
  obtain ⟨css', T, hl, ho, hb, _, _, hx⟩ := h
  have hx2 : ∀ i (hi : i < css.length), css'[i]? = some css[i] ∧ css[i].length = n ∧ ∀ v ∈ css[i], v.oneCell' = true := fun i hi => by
    obtain ⟨es, h1, h2, h3, h4⟩ := hx i css[i] (List.getElem?_eq_getElem hi)
    subst h2
    exact ⟨h1, h3, h4⟩
  have e : css' = css := List.ext_getElem? fun i => by
    rcases Nat.lt_or_ge i css.length with hi | hi
    · rw [(hx2 i hi).1, List.getElem?_eq_getElem hi]
    · rw [List.getElem?_eq_none (by omega), List.getElem?_eq_none hi]
  subst e
  have hall : ∀ es ∈ css', es.length = n ∧ ∀ v ∈ es, v.oneCell' = true := fun es he => by
    obtain ⟨i, hi, rfl⟩ := List.mem_iff_getElem.1 he
    exact (hx2 i hi).2
  obtain ⟨ho1, ho2⟩ := ho
  rcases ho2 with ⟨h1, h2⟩ | ⟨g, cap, cur, hv, _, hh, h3, h4, h5, h6⟩
  · have hlen : css'.length = 0 := by
      simp only [Value.slice.injEq] at h1
      exact h1.2.1
    exact absurd (List.eq_nil_of_length_eq_zero hlen) h0
  · simp only [Value.slice.injEq] at hv
    obtain ⟨rfl, _, rfl⟩ := hv
    exact ⟨g, cur, rfl, hb g rfl, hh, h3, h4, h5, h6, hall⟩

theorem Held.rawAt {M : Nat → Prop} {w0 : World} {rs : List Res} {w : World} {n : Nat} {hn : 0 < n} {t : TypeId} {S : Nat → Prop} {A : Option Addr} {c : Nat} {css : List (List Value)} (h : Held M w0 rs w) {i : Nat} (hi : rs[i]? = some (rVec (eRaw n hn) t S A c css)) {k : Nat} (hk : k < css.length) : ∃ g, A = some ⟨g, 0, none⟩ := by
  obtain ⟨g, _, hA, _⟩ := raw_vec (h.get hi : Vec (eRaw n hn) t w S (.slice A css.length c) css) (fun e => by rw [e] at hk; exact absurd hk (Nat.not_lt_zero _))
  exact ⟨g, hA⟩

theorem Held.rawLen {M : Nat → Prop} {w0 : World} {rs : List Res} {w : World} {n : Nat} {hn : 0 < n} {t : TypeId} {S : Nat → Prop} {A : Option Addr} {c : Nat} {css : List (List Value)} (h : Held M w0 rs w) {i : Nat} (hi : rs[i]? = some (rVec (eRaw n hn) t S A c css)) : ∀ es ∈ css, es.length = n ∧ ∀ v ∈ es, v.oneCell' = true := by
  intro es he
  obtain ⟨g, _, _, _, _, _, _, _, _, hall⟩ := raw_vec (h.get hi : Vec (eRaw n hn) t w S (.slice A css.length c) css) (fun e => by rw [e] at he; cases he)
  exact hall es he

def minN (m k : Nat) : Nat := if k < m then k else m

theorem x_minN {P : Program} {S : World → Prop} {L : List (Nat × Value)} {d : Option Tmp} {x y : Operand} {t t' : TypeId} {m k : Nat} {ty : TypeId} {pos : String} {af : Array Edge} {g : Option (Nat × Bool)} (hx : ev L x = some (.int .i64 m)) (hy : ev L y = some (.int .i64 k)) : XS P S L ⟨d, .call { callee := .builtin .min, args := #[x, y], argTypes := #[t, t'] }, ty, pos, af, g⟩ (.int .i64 (minN m k : Nat)) := fun _ _ _ hE _ => by
  have e : (if (k : Int) < (m : Int) then (k : Int) else (m : Int)) = (minN m k : Nat) := by
    unfold minN
    by_cases h : k < m
    · rw [if_pos (by omega), if_pos h]
    · rw [if_neg (by omega), if_neg h]
  simp only [execOp, resolve, invoke, builtin, Sem.run_bind, Sem.run_pure, Result.andThen_ok, List.map_toArray, List.map_cons, List.map_nil, hE.ev hx, hE.ev hy, run_min_int2, e]

theorem Held.elsTo {M : Nat → Prop} {w0 : World} {rs : List Res} {w : World} {α : Type} {E : Enc α} {S : Nat → Prop} {ps qs : List (List Value × α)} (h : Held M w0 (rEls E S ps :: rs) w) (hp : ps = qs) : Held M w0 (rEls E S qs :: rs) w := hp ▸ h

theorem Held.oSlice {M : Nat → Prop} {w0 : World} {rs : List Res} {w : World} {α : Type} {E : Enc α} {S : Nat → Prop} {es : List Value} {x : List α} (h : Held M w0 rs w) {i : Nat} (hi : rs[i]? = some (rO (eSl E) S es x)) : ∃ A c, es = [.slice A x.length c] := by
  obtain ⟨A, c, he, _⟩ := (h.get hi : (eSl E).O w S es x)
  exact ⟨A, c, he⟩

abbrev bs (l : List UInt8) : ByteArray := ⟨l.toArray⟩

theorem bs_size (l : List UInt8) : (bs l).size = l.length := by simp [bs, ByteArray.size]

theorem bs_toList (l : List UInt8) : (bs l).toList = l := by rw [Go.Lib.toList_data]

theorem bs_app (a b : List UInt8) : bs a ++ bs b = bs (a ++ b) := by
  rw [ByteArray.mk_append_mk]

theorem bs_eta (s : ByteArray) : bs s.data.toList = s := by cases s; simp

/-- A text. -/
def eTxt : Enc (List UInt8) where
  size := 1
  pos := Nat.zero_lt_one
  R := fun _ _ cs x => cs = [.string (bs x)] ∧ x.length ≤ 9223372036854775807
  len := by rintro _ _ _ _ ⟨rfl, _⟩; rfl
  keep := fun h _ => h
  more := fun h _ => h
  O := fun _ _ cs x => cs = [.string (bs x)] ∧ x.length ≤ 9223372036854775807
  read := fun h => h
  okeep := fun h _ => h
  omore := fun h _ => h

theorem oS {w : World} {S : Nat → Prop} {x : List UInt8} (h : x.length ≤ 9223372036854775807) : eTxt.O w S [.string (bs x)] x := ⟨rfl, h⟩

theorem x_sadd {P : Program} {S : World → Prop} {L : List (Nat × Value)} {d : Option Tmp} {t t' : TypeId} {x y : Operand} {m k : List UInt8} {ty : TypeId} {pos : String} {af : Array Edge} {g : Option (Nat × Bool)} (hx : ev L x = some (.string (bs m))) (hy : ev L y = some (.string (bs k))) (h : m.length + k.length ≤ 9223372036854775807) : XS P S L ⟨d, .binOp .add t x y t', ty, pos, af, g⟩ (.string (bs (m ++ k))) := fun _ _ _ hE _ => by
  have e : ¬ (((bs m).size + (bs k).size : Nat) : Int) > IntKind.i64.max := by
    rw [bs_size, bs_size]; show ¬ _ > (9223372036854775807 : Int); omega
  simp only [execOp, hE.ev hx, hE.ev hy, eqGuard, binOp, Op.stringOp, if_neg e, bs_app]; rfl

theorem beq_dec (m k : List UInt8) : (m == k) = decide (m = k) := by
  by_cases h : m = k <;> simp [h]

theorem x_seqlB {P : Program} {S : World → Prop} {L : List (Nat × Value)} {d : Option Tmp} {t t' : TypeId} {x y : Operand} {m k : List UInt8} {ty : TypeId} {pos : String} {af : Array Edge} {g : Option (Nat × Bool)} (hx : ev L x = some (.string (bs m))) (hy : ev L y = some (.string (bs k))) : XS P S L ⟨d, .binOp .eql t x y t', ty, pos, af, g⟩ (.bool (decide (m = k))) := by
  have := x_seql (P := P) (S := S) (d := d) (t := t) (t' := t') (ty := ty) (pos := pos) (af := af) (g := g) hx hy
  rwa [bs_toList, bs_toList, beq_dec] at this

theorem x_sneqB {P : Program} {S : World → Prop} {L : List (Nat × Value)} {d : Option Tmp} {t t' : TypeId} {x y : Operand} {m k : List UInt8} {ty : TypeId} {pos : String} {af : Array Edge} {g : Option (Nat × Bool)} (hx : ev L x = some (.string (bs m))) (hy : ev L y = some (.string (bs k))) : XS P S L ⟨d, .binOp .neq t x y t', ty, pos, af, g⟩ (.bool (!decide (m = k))) := by
  have := x_sneq (P := P) (S := S) (d := d) (t := t) (t' := t') (ty := ty) (pos := pos) (af := af) (g := g) hx hy
  rwa [bs_toList, bs_toList, beq_dec] at this

theorem x_lenB {P : Program} {S : World → Prop} {L : List (Nat × Value)} {d : Option Tmp} {x : Operand} {t : TypeId} {s : List UInt8} {ty : TypeId} {pos : String} {af : Array Edge} {g : Option (Nat × Bool)} (ht : P.underlying t = some .string) (hx : ev L x = some (.string (bs s))) : XS P S L ⟨d, .call { callee := .builtin .len, args := #[x], argTypes := #[t] }, ty, pos, af, g⟩ (.int .i64 (s.length : Int)) := by
  have := x_lenS (P := P) (S := S) (d := d) (ty := ty) (pos := pos) (af := af) (g := g) ht hx
  rwa [bs_size] at this

theorem x_idxB {P : Program} {S : World → Prop} {L : List (Nat × Value)} {d : Option Tmp} {t : TypeId} {x y : Operand} {l : List UInt8} {q : IntKind} {m : Int} {k : Nat} {b : UInt8} {ty : TypeId} {pos : String} {af : Array Edge} {g : Option (Nat × Bool)} (ht : P.underlying t = some .string) (hx : ev L x = some (.string (bs l))) (hy : ev L y = some (.int q m)) (hm : m = (k : Int)) (hk : k < l.length) (hb : b = l[k]) : XS P S L ⟨d, .index t x y, ty, pos, af, g⟩ (.int .u8 (b.toNat : Int)) := fun _ _ w hE _ => by
  subst hm hb
  have h := run_index_string (P := P) w t (bs l) q (k : Int) ht
  rw [dif_pos ⟨by omega, by rw [bs_size]; omega⟩] at h
  simp only [execOp, hE.ev hx, hE.ev hy, Sem.run_bind, h, Result.andThen_ok]
  rfl

theorem x_sliceSL {P : Program} {S : World → Prop} {L : List (Nat × Value)} {d : Option Tmp} {x lo : Operand} {t : TypeId} {l : List UInt8} {k : Nat} {m : Int} {q : IntKind} {ty : TypeId} {pos : String} {af : Array Edge} {g : Option (Nat × Bool)} (ht : P.underlying t = some .string) (hx : ev L x = some (.string (bs l))) (hlo : ev L lo = some (.int q m)) (hm : m = (k : Int)) (hk : k ≤ l.length) : XS P S L ⟨d, .slice t x (some lo) none none, ty, pos, af, g⟩ (.string (bs (l.drop k))) := fun _ _ _ hE _ => by
  subst hm
  have hsz := bs_size l
  have e : (bs l).extract k (bs l).size = bs (l.drop k) := by
    refine WideShapes.bytes_inj ?_
    rw [Go.Lib.extract_data, hsz]
    exact List.take_of_length_le (by rw [List.length_drop]; exact Nat.le_refl _)
  simp [execOp, hE.ev hx, hE.ev hlo, Instr.sliceAt, Instr.slice, run_underlying ht, Instr.sliceBounds, Instr.sliceBound, asIntOf, hsz, hk]
  simpa [hsz] using e

theorem x_sliceSH {P : Program} {S : World → Prop} {L : List (Nat × Value)} {d : Option Tmp} {x lo hi : Operand} {t : TypeId} {l : List UInt8} {k k2 : Nat} {m m2 : Int} {q q2 : IntKind} {ty : TypeId} {pos : String} {af : Array Edge} {g : Option (Nat × Bool)} (ht : P.underlying t = some .string) (hx : ev L x = some (.string (bs l))) (hlo : ev L lo = some (.int q m)) (hhi : ev L hi = some (.int q2 m2)) (hm : m = (k : Int)) (hm2 : m2 = (k2 : Int)) (hk : k ≤ k2) (hk2 : k2 ≤ l.length) : XS P S L ⟨d, .slice t x (some lo) (some hi) none, ty, pos, af, g⟩ (.string (bs ((l.drop k).take (k2 - k)))) := fun _ _ _ hE _ => by
  subst hm hm2
  have hsz := bs_size l
  have e : (bs l).extract k k2 = bs ((l.drop k).take (k2 - k)) := by
    refine WideShapes.bytes_inj ?_
    rw [Go.Lib.extract_data]
  simp [execOp, hE.ev hx, hE.ev hlo, hE.ev hhi, Instr.sliceAt, Instr.slice, run_underlying ht, Instr.sliceBounds, Instr.sliceBound, asIntOf, hsz, hk, hk2]
  simpa [hsz] using e

theorem x_sliceST {P : Program} {S : World → Prop} {L : List (Nat × Value)} {d : Option Tmp} {x hi : Operand} {t : TypeId} {l : List UInt8} {k : Nat} {m : Int} {q : IntKind} {ty : TypeId} {pos : String} {af : Array Edge} {g : Option (Nat × Bool)} (ht : P.underlying t = some .string) (hx : ev L x = some (.string (bs l))) (hhi : ev L hi = some (.int q m)) (hm : m = (k : Int)) (hk : k ≤ l.length) : XS P S L ⟨d, .slice t x none (some hi) none, ty, pos, af, g⟩ (.string (bs (l.take k))) := fun _ _ _ hE _ => by
  subst hm
  have hsz := bs_size l
  have e : (bs l).extract 0 k = bs (l.take k) := by
    refine WideShapes.bytes_inj ?_
    rw [Go.Lib.extract_data]
    simp
  simp [execOp, hE.ev hx, hE.ev hhi, Instr.sliceAt, Instr.slice, run_underlying ht, Instr.sliceBounds, Instr.sliceBound, asIntOf, hsz, hk]
  simpa [hsz] using e

theorem c_ownS {M : Nat → Prop} {w0 : World} {rs : List Res} {S : Nat → Prop} {b off c k : Nat} {xs : List (List UInt8)} {y : List UInt8} (i : Nat) (hi : rs[i]? = some (rSo eTxt S (some ⟨b, off, none⟩) c xs)) (hk : k < xs.length) (hy : xs[k] = y) : ∀ w, Held M w0 rs w → w.cell? ⟨b, off + k * 1, none⟩ = some (.string (bs y)) := fun w h => by
  obtain ⟨b', off', es, hA, _, hR, hc⟩ := (h.sl hi).at hk
  simp only [Option.some.injEq, Addr.mk.injEq, and_true] at hA
  obtain ⟨rfl, rfl⟩ := hA
  obtain ⟨rfl, _⟩ := hR
  have := hc 0 _ rfl
  rw [← hy]; exact this

theorem i_ownS {M : Nat → Prop} {w0 w : World} {rs : List Res} {S : Nat → Prop} {A : Option Addr} {c k : Nat} {xs : List (List UInt8)} (h : Held M w0 rs w) (i : Nat) (hi : rs[i]? = some (rSo eTxt S A c xs)) (hk : k < xs.length) : xs[k].length ≤ 9223372036854775807 := by
  obtain ⟨b', off', es, hA, _, hR, hc⟩ := (h.sl hi).at hk
  exact hR.2

/-- A builder in block b, its own blocks in S, holding the bytes l. -/
def BldIn (T e : TypeId) (B b : Nat) (S : Nat → Prop) (l : List UInt8) (w : World) : Prop :=
  Lib.IsBuilderF T e B b (Lib.byteCells l) w ∧ S b ∧ ∀ p v g, w.heap[b]? = some (.cells #[p, v] T (0, 0)) → v.ownBlock = some g → S g

theorem BldIn.loc {T e : TypeId} {B b : Nat} {S : Nat → Prop} {l : List UInt8} {w w' : World} (hs : ∀ k, S k → w'.heap[k]? = w.heap[k]?) (h : BldIn T e B b S l w) : BldIn T e B b S l w' := by
  obtain ⟨h1, h2, h3⟩ := h
  have key : ∀ p, Lib.BuilderAtF T e B b p (Lib.byteCells l) w → Lib.BuilderAtF T e B b p (Lib.byteCells l) w' := by
    rintro p ⟨hB, v, hb, hown, hne⟩
    refine ⟨hB, v, (hs b h2).trans hb, ⟨hown.1, ?_⟩, hne⟩
    rcases hown.2 with hn | ⟨g, cap, cur, fz, rfl, hbg, hg, rest⟩
    · exact .inl hn
    · exact .inr ⟨g, cap, cur, fz, rfl, hbg, (hs g (h3 _ _ g hb (by simp [Value.ownBlock]))).trans hg, rest⟩
  refine ⟨?_, h2, fun p v g hb hv => h3 p v g ((hs b h2).symm.trans hb) hv⟩
  rcases h1 with h | h
  · exact .inl (key _ h)
  · exact .inr (key _ h)

def rBldT (T e : TypeId) (B b : Nat) (S : Nat → Prop) (l : List UInt8) : Res := ⟨S, BldIn T e B b S l, fun _ _ hs h => BldIn.loc hs h⟩

theorem BldIn.mk {T e : TypeId} {B b : Nat} {l : List UInt8} {w : World} (h : Lib.IsBuilderF T e B b (Lib.byteCells l) w) : BldIn T e B b (Iv B w.heap.size) l w := by
  have hb : B ≤ b ∧ b < w.heap.size := by
    rcases h with h | h
    · exact ⟨h.1, h.lt⟩
    · exact ⟨h.1, h.lt⟩
  refine ⟨h, hb, fun p v g hh hv => ?_⟩
  have key : ∀ q, Lib.BuilderAtF T e B b q (Lib.byteCells l) w → Iv B w.heap.size g := by
    rintro q ⟨_, v', hb', hown, _⟩
    rw [hh] at hb'
    simp only [Option.some.injEq, Obj.cells.injEq, and_true] at hb'
    have e2 : v = v' := by
      have := congrArg (fun a : Array Value => a[1]?) hb'
      simpa using this
    subst e2
    exact hown.lt g hv
  rcases h with h | h
  · exact key _ h
  · exact key _ h

theorem Held.bldCall {T e : TypeId} {w0 w w' : World} {b : Nat} {S : Nat → Prop} {l l' : List UInt8} (h : Held Nob w0 [rBldT T e w0.heap.size b S l] w) (hb : Below w0.heap.size w w') (hi : Lib.IsBuilderF T e w0.heap.size b (Lib.byteCells l') w') : ∃ S', Held Nob w0 [rBldT T e w0.heap.size b S' l'] w' := by
  refine ⟨Iv w0.heap.size w'.heap.size, ?_⟩
  have hb2 : Below w0.heap.size w0 w' := h.below.trans hb
  exact ⟨.of_below hb2, by intro r hr; obtain rfl := List.mem_singleton.1 hr; exact BldIn.mk hi, by intro r hr; obtain rfl := List.mem_singleton.1 hr; exact fun k hk => ⟨.inr hk.1, hk.2⟩, List.pairwise_singleton _ _⟩

theorem Held.toBld {T e : TypeId} {w0 w : World} {b : Nat} {rs : List Res} (h : Held Nob w0 (rBlk b T [.pointer none, .slice none 0 0] :: rs) w) : ∃ S, Held Nob w0 [rBldT T e w0.heap.size b S []] w := by
  have hB : Blk w b T #[.pointer none, .slice none 0 0] := h.ok _ List.mem_cons_self
  have hr := h.rng _ (List.mem_cons_self) b rfl
  have hle : w0.heap.size ≤ b := hr.1.resolve_left fun x => x.elim
  have hi : Lib.IsBuilderF T e w0.heap.size b (Lib.byteCells []) w := .inl ⟨hle, _, hB, by simpa [Lib.byteCells] using World.ownsRowF_nil w w0.heap.size e 1, by simp [Value.ownBlock]⟩
  refine ⟨Iv w0.heap.size w.heap.size, ⟨h.chg, ?_, ?_, List.pairwise_singleton _ _⟩⟩
  · intro r hr; obtain rfl := List.mem_singleton.1 hr; exact BldIn.mk hi
  · intro r hr; obtain rfl := List.mem_singleton.1 hr; exact fun k hk => ⟨.inr hk.1, hk.2⟩

theorem Held.isBld {T e : TypeId} {M : Nat → Prop} {w0 w : World} {B b : Nat} {S : Nat → Prop} {l : List UInt8} {rs : List Res} (h : Held M w0 (rBldT T e B b S l :: rs) w) : Lib.IsBuilderF T e B b (Lib.byteCells l) w := (h.ok _ List.mem_cons_self : BldIn T e B b S l w).1

theorem x_sub8 {P : Program} {S : World → Prop} {L : List (Nat × Value)} {d : Option Tmp} {t t' : TypeId} {x y : Operand} {m k : Int} {ty : TypeId} {pos : String} {af : Array Edge} {g : Option (Nat × Bool)} (hx : ev L x = some (.int .u8 m)) (hy : ev L y = some (.int .u8 k)) (h : 0 ≤ m - k ∧ m - k ≤ 255) : XS P S L ⟨d, .binOp .sub t x y t', ty, pos, af, g⟩ (.int .u8 (m - k)) := fun _ _ _ hE _ => by
  have e : IntKind.u8.wrap (m - k) = m - k := IntWalk.u8_in _ h
  simp only [execOp, hE.ev hx, hE.ev hy, eqGuard, binOp, Op.intArith, e]; rfl

/-- What a package-level variable holds stays when only new blocks come and blocks behind it change. -/
theorem tab_below {P : Program} {w w' : World} {name : String} {k : IntKind} {zs : List Int} {g : Nat} (hg : P.globalNamed name = some g) (h : Lib.TabIs P w name k zs) (hb : Below w.heap.size w w') : Lib.TabIs P w' name k zs := by
  unfold Lib.TabIs World.var? at h ⊢
  rw [hg] at h ⊢
  simp only [Option.bind_some] at h ⊢
  have hlt : g < w.heap.size := by
    rcases Nat.lt_or_ge g w.heap.size with hlt | hge
    · exact hlt
    · rw [Array.getElem?_eq_none hge] at h; cases h
  rw [hb.block g hlt]
  exact h

/-- Two struct values compared. -/
theorem x_aeql {P : Program} {S : World → Prop} {L : List (Nat × Value)} {d : Option Tmp} {t t' : TypeId} {x y : Operand} {xs ys : Array Value} {r : Bool} {ty : TypeId} {pos : String} {af : Array Edge} {g : Option (Nat × Bool)} (hm : P.eqGuardType P.depth t = false) (he : ∀ w, (Op.equalIn 10000 t (.agg xs) (.agg ys)).run P w = .ok r w) (hx : ev L x = some (.agg xs)) (hy : ev L y = some (.agg ys)) : XS P S L ⟨d, .binOp .eql t x y t', ty, pos, af, g⟩ (.bool r) := fun _ _ w hE _ => by
  simp only [execOp, hE.ev hx, hE.ev hy, Sem.run_bind, run_eqGuard_agg w .eql t x y xs ys hm, Result.andThen_ok, run_eql_struct, he]
  rfl

theorem x_aneq {P : Program} {S : World → Prop} {L : List (Nat × Value)} {d : Option Tmp} {t t' : TypeId} {x y : Operand} {xs ys : Array Value} {r : Bool} {ty : TypeId} {pos : String} {af : Array Edge} {g : Option (Nat × Bool)} (hm : P.eqGuardType P.depth t = false) (he : ∀ w, (Op.equalIn 10000 t (.agg xs) (.agg ys)).run P w = .ok r w) (hx : ev L x = some (.agg xs)) (hy : ev L y = some (.agg ys)) : XS P S L ⟨d, .binOp .neq t x y t', ty, pos, af, g⟩ (.bool (!r)) := fun _ _ w hE _ => by
  simp only [execOp, hE.ev hx, hE.ev hy, Sem.run_bind, run_eqGuard_agg w .neq t x y xs ys hm, Result.andThen_ok, run_neq_struct, he]
  rfl

/-- Block g holds the place p in the text s. -/
def rIt (g : Nat) (s : List UInt8) (p : Nat) : Res := ⟨fun b => b = g, fun w => w.heap[g]? = some (.stringIter (bs s) p), fun _ _ h hb => (h g rfl).trans hb⟩

/-- The rune at p and its width. -/
def rnA (s : List UInt8) (p : Nat) : Nat × Nat := Utf8.decode (bs s) p

theorem rnA_drop (s : List UInt8) (p : Nat) : rnA s p = Go.Lib.decodeL (s.drop p) := (Go.Lib.decodeL_drop (bs s) p).symm

theorem rnA_pos {s : List UInt8} {p : Nat} (h : p < s.length) : 1 ≤ (rnA s p).2 := by
  rw [rnA_drop]
  have := Go.Lib.decodeL_width (s.drop p)
  omega

theorem rnA_le {s : List UInt8} {p : Nat} (h : p < s.length) : p + (rnA s p).2 ≤ s.length := by
  rw [rnA_drop]
  have := Go.Lib.decodeL_le (s.drop p) (fun e => by have := congrArg List.length e; rw [List.length_drop, List.length_nil] at this; omega)
  rw [List.length_drop] at this
  omega

theorem rnA_top (s : List UInt8) (p : Nat) : (rnA s p).1 ≤ 1114111 := by
  rw [rnA_drop, Go.Lib.decodeL_N]
  have k0 := ((s.drop p).getD 0 0).toNat_lt
  have k1 := ((s.drop p).getD 1 0).toNat_lt
  have k2 := ((s.drop p).getD 2 0).toNat_lt
  have k3 := ((s.drop p).getD 3 0).toNat_lt
  rcases Go.Lib.decodeN_shape (s.drop p).length ((s.drop p).getD 0 0).toNat ((s.drop p).getD 1 0).toNat ((s.drop p).getD 2 0).toNat ((s.drop p).getD 3 0).toNat with ⟨c, e⟩ | ⟨c1, c2, c3, cv, e⟩ | ⟨c1, c2, c3, c4, cv, cs, e⟩ | ⟨c1, c2, c3, c4, c5, cv, cw, e⟩ | e
  all_goals (rw [e]; dsimp only; omega)

theorem drop_get0 {s : List UInt8} {p : Nat} (h : p < s.length) : (s.drop p).getD 0 0 = s[p] := by
  rw [List.drop_eq_getElem_cons h]; rfl

theorem rnA_one {s : List UInt8} {p : Nat} (h : p < s.length) (ha : (s[p]).toNat < 128) : rnA s p = ((s[p]).toNat, 1) := by
  rw [rnA_drop, Go.Lib.decodeL_N, drop_get0 h, Go.Lib.decodeN_ascii _ _ _ _ _ ha]

/-- Behind another byte the rune is great, and so are the bytes of it. -/
theorem rnA_big {s : List UInt8} {p : Nat} (h : p < s.length) (ha : ¬ (s[p]).toNat < 128) : 128 ≤ (rnA s p).1 ∧ ∀ j (hj : j < s.length), p ≤ j → j < p + (rnA s p).2 → 128 ≤ (s[j]).toNat := by
  have hg : ∀ i, p + i < s.length → (s.drop p).getD i 0 = s.getD (p + i) 0 := fun i hi => by
    rw [List.getD_eq_getElem?_getD, List.getD_eq_getElem?_getD, List.getElem?_drop]
  have hk : ∀ j (hj : j < s.length), s.getD j 0 = s[j] := fun j hj => by rw [List.getD_eq_getElem?_getD, List.getElem?_eq_getElem hj]; rfl
  have ha' : ¬ ((s.drop p).getD 0 0).toNat < 128 := by rw [drop_get0 h]; exact ha
  rw [rnA_drop, Go.Lib.decodeL_N]
  have hl : (s.drop p).length = s.length - p := List.length_drop
  rcases Go.Lib.decodeN_shape (s.drop p).length ((s.drop p).getD 0 0).toNat ((s.drop p).getD 1 0).toNat ((s.drop p).getD 2 0).toNat ((s.drop p).getD 3 0).toNat with ⟨c, e⟩ | ⟨c1, c2, c3, cv, e⟩ | ⟨c1, c2, c3, c4, cv, cs, e⟩ | ⟨c1, c2, c3, c4, c5, cv, cw, e⟩ | e
  · exact absurd c ha'
  · rw [e]
    refine ⟨by dsimp only; omega, fun j hj h1 h2 => ?_⟩
    dsimp only at h2
    rw [hg 1 (by omega)] at c3
    obtain rfl | rfl : j = p ∨ j = p + 1 := by omega
    · omega
    · rw [hk _ hj] at c3; omega
  · rw [e]
    refine ⟨by dsimp only; omega, fun j hj h1 h2 => ?_⟩
    dsimp only at h2
    rw [hg 1 (by omega)] at c3
    rw [hg 2 (by omega)] at c4
    obtain rfl | rfl | rfl : j = p ∨ j = p + 1 ∨ j = p + 2 := by omega
    · omega
    · rw [hk _ hj] at c3; omega
    · rw [hk _ hj] at c4; omega
  · rw [e]
    refine ⟨by dsimp only; omega, fun j hj h1 h2 => ?_⟩
    dsimp only at h2
    rw [hg 1 (by omega)] at c3
    rw [hg 2 (by omega)] at c4
    rw [hg 3 (by omega)] at c5
    obtain rfl | rfl | rfl | rfl : j = p ∨ j = p + 1 ∨ j = p + 2 ∨ j = p + 3 := by omega
    · omega
    · rw [hk _ hj] at c3; omega
    · rw [hk _ hj] at c4; omega
    · rw [hk _ hj] at c5; omega
  · rw [e]
    refine ⟨by dsimp only; omega, fun j hj h1 h2 => ?_⟩
    dsimp only at h2
    obtain rfl : j = p := by omega
    omega

theorem st_range {P : Program} {ops : Array Oper} {Q : Exit → Act → World → Prop} {a : Act} {w : World} {K : Act → World → Prop} {n d : Nat} {L : List (Nat × Value)} {M : Nat → Prop} {w0 : World} {rs : List Res} {t : TypeId} {x : Operand} {s : List UInt8} {ty : TypeId} {pos : String} {af : Array Edge} {g : Option (Nat × Bool)} (hE : Env n L a) (hH : Held M w0 rs w) (ht : P.underlying t = some .string) (hx : ev L x = some (.string (bs s))) (hw : Region.wanted ⟨some d, .range t x, ty, pos, af, g⟩ (yielded ops a.tmps) = true) (hn : Nat.blt d n = true)
    (k : ∀ q a' w', Env n ((d, .pointer (some ⟨q, 0, none⟩)) :: L) a' → Held M w0 (rIt q s 0 :: rs) w' → K a' w') : Stp P ops Q ⟨some d, .range t x, ty, pos, af, g⟩ a w K := by
  refine st_val hE hw (v := .pointer (some ⟨w.heap.size, 0, none⟩)) (w' := w.iter (bs s) 0) ?_ rfl hn fun a' hE' => k _ a' _ hE' ?_
  · simp only [execOp, hE.ev hx, Sem.run_bind, run_range_string w t (bs s) ht, Result.andThen_ok]; rfl
  · exact hH.new ((Below.refl _ _).alloc (Nat.le_refl _) _) (rIt w.heap.size s 0) (World.iter_heap w (bs s) 0) fun b (hb : b = _) => by subst hb; simp [World.iter]

theorem iterAt_chg (w : World) (g : Nat) (s : ByteArray) (p : Nat) : Chg (fun b => b = g) w (w.iterAt g s p) :=
  ⟨rfl, rfl, rfl, by rw [Go.Lib.iterAt_size]; exact Nat.le_refl _, fun k _ hk => Go.Lib.iterAt_other w g k s p hk⟩

theorem st_nextT {P : Program} {ops : Array Oper} {Q : Exit → Act → World → Prop} {a : Act} {w : World} {K : Act → World → Prop} {n d : Nat} {L : List (Nat × Value)} {M : Nat → Prop} {w0 : World} {rs : List Res} {x : Operand} {q p : Nat} {s : List UInt8} {ty : TypeId} {pos : String} {af : Array Edge} {g : Option (Nat × Bool)} (i : Nat) (hE : Env n L a) (hH : Held M w0 rs w) (hi : rs[i]? = some (rIt q s p)) (hp : p < s.length) (hx : ev L x = some (.pointer (some ⟨q, 0, none⟩))) (hw : Region.wanted ⟨some d, .next x true, ty, pos, af, g⟩ (yielded ops a.tmps) = true) (hn : Nat.blt d n = true)
    (k : ∀ a' w', Env n ((d, .tuple #[.bool true, .int .i64 (p : Int), .int .i32 ((rnA s p).1 : Int)]) :: L) a' → Held M w0 (rs.set i (rIt q s (p + (rnA s p).2))) w' → K a' w') : Stp P ops Q ⟨some d, .next x true, ty, pos, af, g⟩ a w K := by
  have hg : w.heap[q]? = some (.stringIter (bs s) p) := hH.get hi
  refine st_val hE hw (w' := w.iterAt q (bs s) (p + (rnA s p).2)) ?_ rfl hn fun a' hE' => k a' _ hE' ?_
  · simp only [execOp, hE.ev hx, Sem.run_bind, Go.Lib.run_next_any_at w q (bs s) p ty hg (by rw [bs_size]; exact hp), Result.andThen_ok]; rfl
  · exact hH.mut hi (iterAt_chg w q (bs s) _) (rIt q s (p + (rnA s p).2)) (Go.Lib.iterAt_heap w q (bs s) p _ hg) fun b hb => .inl hb

theorem st_nextF {P : Program} {ops : Array Oper} {Q : Exit → Act → World → Prop} {a : Act} {w : World} {K : Act → World → Prop} {n d : Nat} {L : List (Nat × Value)} {M : Nat → Prop} {w0 : World} {rs : List Res} {x : Operand} {q p : Nat} {s : List UInt8} {ty : TypeId} {pos : String} {af : Array Edge} {g : Option (Nat × Bool)} (i : Nat) (hE : Env n L a) (hH : Held M w0 rs w) (hi : rs[i]? = some (rIt q s p)) (hp : ¬ p < s.length) (hx : ev L x = some (.pointer (some ⟨q, 0, none⟩))) (hw : Region.wanted ⟨some d, .next x true, ty, pos, af, g⟩ (yielded ops a.tmps) = true) (hn : Nat.blt d n = true)
    (k : ∀ a', Env n ((d, .tuple #[.bool false]) :: L) a' → K a' w) : Stp P ops Q ⟨some d, .next x true, ty, pos, af, g⟩ a w K := by
  have hg : w.heap[q]? = some (.stringIter (bs s) p) := hH.get hi
  refine st_val hE hw (w' := w) ?_ rfl hn fun a' hE' => k a' hE'
  simp only [execOp, hE.ev hx, Sem.run_bind, Go.Lib.run_next_end_at w q (bs s) p ty hg (by rw [bs_size]; exact hp), Result.andThen_ok]; rfl

theorem scp_ret {Q : Exit → Act → World → Prop} {a : Act} {w : World} (h : Q .ret a w) : Exit.noGoto Q .ret a w := h

def encR (r : Int) : List UInt8 := (Utf8.encode r).data.toList

theorem encR_len (r : Int) : (encR r).length = (Utf8.encode r).size := (Go.Lib.size_eq _).symm

theorem encR_facts {r : Int} (hv : Utf8.valid r = true) (h : 128 ≤ r) : 2 ≤ (encR r).length ∧ (encR r).length ≤ 4 ∧ ∀ k (hk : k < (encR r).length), k = (encR r).length - 1 → 128 ≤ ((encR r)[k]).toNat := by
  obtain ⟨h1, h2, h3⟩ := encode_facts r hv h
  have e := encR_len r
  refine ⟨by omega, by omega, fun k hk hkl => ?_⟩
  have h4 := h3 (by omega)
  have hk' : k = (Utf8.encode r).size - 1 := by omega
  subst hk'
  have : (encR r)[(Utf8.encode r).size - 1] = (Utf8.encode r)[(Utf8.encode r).size - 1]'(by omega) := by
    show (Utf8.encode r).data.toList[(Utf8.encode r).size - 1]'_ = (Utf8.encode r).data[(Utf8.encode r).size - 1]'_
    exact Array.getElem_toList _
  rw [this]; exact h4

theorem x_convRS {P : Program} {S : World → Prop} {L : List (Nat × Value)} {d : Option Tmp} {s t : TypeId} {x : Operand} {q : IntKind} {m : Int} {ty : TypeId} {pos : String} {af : Array Edge} {g : Option (Nat × Bool)} (hs : (P.underlying s).isSome = true) (ht : P.underlying t = some .string) (hx : ev L x = some (.int q m)) : XS P S L ⟨d, .convert s t x, ty, pos, af, g⟩ (.string (bs (encR m))) := fun _ _ w hE _ => by
  have e : bs (encR m) = Utf8.encode m := bs_eta _
  simp only [execOp, hE.ev hx, Sem.run_bind, run_convert_int_string w s t q m hs ht, Result.andThen_ok, e]
  rfl

/-- The wide fence, in a round or not. -/
abbrev FW (ro : Option Nat) : Fence := { Fence.wide with round := ro }

theorem rowsIn_w {ro : Option Nat} {n : Nat} {P : Program} {row : String} {args : Array Value} {w : World} {R : Value → World → Prop} (h : Rows P row args w R) : RowsIn (FW ro) n P row args w R :=
  fun c cs _ => let ⟨v, w', hR, s⟩ := h c cs; ⟨v, w', hR, stepsIn_wide.2 s⟩

theorem callsIn_w {ro : Option Nat} {n : Nat} {P : Program} {f : FuncId} {args : Array Value} {w : World} {R : Ending → World → Prop} (h : Calls P f args w R) : CallsIn (FW ro) n P f args w R :=
  (callsIn_wide (n := n)).2 h

def noDef (o : Oper) : Bool := match o.op with
  | .defer _ => false
  | _ => true

theorem noDef_ne {o : Oper} (h : noDef o = true) : ∀ c, o.op ≠ .defer c := fun c e => by
  unfold noDef at h; rw [e] at h; cases h

theorem op_in {ro : Option Nat} {n : Nat} {P : Program} {Q : Exit → Act → World → Prop} {o : Oper} {a : Act} {w : World} {K : Act → World → Prop} (hd : noDef o = true) (h : o.wp P a w K Q) : o.wpIn (FW ro) n P a w K Q := by
  refine ⟨fun _ _ => trivial, ?_⟩
  rw [Oper.semAt_eq _ _ _ (noDef_ne hd)]
  unfold Oper.wp at h
  revert h
  cases (execOp a.eval o).run P w with
  | ok nx w' =>
    cases nx with
    | value v => exact fun h => h
    | skip => exact fun h => h
    | defer d => exact fun h => h
    | enter f args => exact fun h => ⟨fun hq => by simp [Fence.wide] at hq, callsIn_w h⟩
    | row r args => exact fun h => ⟨fun hq => by simp [Fence.wide] at hq, rowsIn_w h⟩
    | round => exact fun h => h.elim
    | _ => exact fun h => h.elim
  | halt hh w' =>
    cases hh with
    | panic v => exact fun h => h
    | _ => exact fun h => h.elim

theorem plI {ro : Option Nat} {n : Nat} {P : Program} {ops : Array Oper} {Q : Exit → Act → World → Prop} {o : Oper} {rest : List Oper} {a : Act} {w : World} (hd : noDef o = true) (h : ∀ K : Act → World → Prop, (∀ a w, wpListIn (FW ro) n P ops Q rest a w → K a w) → Stp P ops Q o a w K) : wpListIn (FW ro) n P ops Q (o :: rest) a w :=
  wpListIn_step fun K hK => by
    have h1 := h K hK
    unfold Stp at h1
    split
    · rename_i hw; rw [if_pos hw] at h1; exact op_in hd h1
    · rename_i hw; rw [if_neg hw] at h1; exact ⟨fun _ _ => trivial, h1⟩

theorem pl_xI {ro : Option Nat} {m : Nat} {P : Program} {S : World → Prop} {ops : Array Oper} {Q : Exit → Act → World → Prop} {o : Oper} {rest : List Oper} {a : Act} {w : World} {n d : Nat} {L : List (Nat × Value)} {v : Value} (hE : Env n L a) (hS : S w) (hd0 : noDef o = true) (hw : Region.wanted o (yielded ops a.tmps) = true) (hx : XS P S L o v) (hd : o.dst = some d) (hn : Nat.blt d n = true)
    (k : ∀ a', Env n ((d, v) :: L) a' → wpListIn (FW ro) m P ops Q rest a' w) : wpListIn (FW ro) m P ops Q (o :: rest) a w :=
  plI hd0 fun K hK => st_x hE hS hw hx hd hn fun a' hE' => hK _ _ (k a' hE')

theorem rgI {ro : Option Nat} {n : Nat} {P : Program} {Q : Exit → Act → World → Prop} {a : Act} {w : World} {id : Nat} {l : List Oper} (h : wpListIn (FW ro) n P l.toArray Q l a w) : (Code.region id l.toArray false).wpIn (FW ro) n P Q a w := wpIn_region_lit h

theorem any_in {ro : Option Nat} {n : Nat} {P : Program} {md : Region.Mode} {ops : Array Oper} {Q : Exit → Act → World → Prop} (hX : ¬ LetsOut Q) (hd : ∀ (i : Nat) (o : Oper), ops[i]? = some o → noDef o = true) : ∀ (fuel : Nat) (ls : Array Bool) (a : Act) (w : World), wpAny P md ops Q fuel ls a w → wpAnyIn (FW ro) n P md ops Q fuel ls a w
  | 0, _, _, _, h => h
  | fuel + 1, ls, a, w, h => by
    refine ⟨h.1, fun i hi => ?_⟩
    have h1 := h.2 i hi
    unfold wpOp at h1
    unfold wpOpIn
    split
    · rename_i ho; rw [ho] at h1; exact any_in hX hd fuel _ _ _ h1
    · rename_i o ho
      rw [ho] at h1
      simp only at h1
      split
      · rename_i hw
        rw [if_pos hw] at h1
        rcases h1 with h1 | h1
        · exact op_in (hd i o ho) (Oper.wp_mono (fun a w => any_in hX hd fuel _ a w) h1)
        · exact absurd h1.2 hX
      · rename_i hw
        rw [if_neg hw] at h1
        exact ⟨fun _ _ => trivial, any_in hX hd fuel _ _ _ h1⟩

theorem drI_start {ro : Option Nat} {n : Nat} {P : Program} {ops : Array Oper} {Q : Exit → Act → World → Prop} {a : Act} {w : World} {id : Nat} {M : Nat → Prop} {w0 : World} {rs : List Res} (hX : ¬ LetsOut Q) (hd : ops.all noDef = true) (S : World → Prop) (m : Nat) (ls : Array Bool) (hm : P.follows .mixedOrders = true) (hz : ops.size = m) (hls : Array.replicate m false = ls) (hH : Held M w0 rs w) (hS : ∀ w, Held M w0 rs w → S w)
    (k : ∀ w', Held M w0 rs w' → wpAnyH P .any ops Q S m ls a w') : (Code.region id ops true).wpIn (FW ro) n P Q a w := by
  refine wpIn_region_any hm ?_
  refine any_in hX (fun i o ho => ?_) _ _ _ _ ?_
  · have h1 := Array.all_eq_true.1 hd
    obtain ⟨hi, rfl⟩ := Array.getElem?_eq_some_iff.1 ho
    exact h1 i hi
  · rw [hz, hls]
    exact wpAny_of_held _ _ _ _ (k _ hH.drew)

theorem cnd_dI {ro : Option Nat} {m : Nat} {P : Program} {Q : Exit → Act → World → Prop} {a : Act} {w : World} {c : Operand} {x y : Code} {p : Prop} [Decidable p] {n : Nat} {L : List (Nat × Value)} (hE : Env n L a) (hc : ev L c = some (.bool (decide p))) (ht : p → x.wpIn (FW ro) m P Q a w) (hf : ¬ p → y.wpIn (FW ro) m P Q a w) : (Code.cond c x y).wpIn (FW ro) m P Q a w := by
  by_cases h : p
  · exact wpIn_cond_true (by rw [hE.ev hc]; simp [h]) (ht h)
  · exact wpIn_cond_false (by rw [hE.ev hc]; simp [h]) (hf h)

theorem lpI {ro : Option Nat} {n : Nat} {P : Program} {Q : Exit → Act → World → Prop} {a : Act} {w : World} {c : Code} (I : Nat → Act → World → Prop) (m : Nat) (h0 : I m a w)
    (round : ∀ m a w, I m a w → c.wpIn (FW ro) n P (Exit.then (fun a' w' => ∃ m', m' < m ∧ I m' a' w') Q) a w) : (Code.loop c).wpIn (FW ro) n P Q a w := by
  intro b k cs hro hb hr
  have key : ∀ j a w, I j a w → ∃ e a' w', Q e a' w' ∧ ArrivesIn (Machine.fenced P (FW ro)) P (lone (b.atR a (.code c :: .inLoop c :: k)) cs w) b k cs e a' w' := by
    intro j
    induction j using Nat.strongRecOn with
    | _ j ih =>
      intro a w hI
      obtain ⟨e, a₁, w₁, hq, harr⟩ := round j a w hI b (.inLoop c :: k) cs hro hb hr
      cases e with
      | normal =>
        obtain ⟨m', hlt, hI₁⟩ := hq
        obtain ⟨e₂, a₂, w₂, hq₂, harr₂⟩ := ih m' hlt a₁ w₁ hI₁
        exact ⟨e₂, a₂, w₂, hq₂, .of_steps (StepsIn.trans harr (.one (fenced_calm hb hr rfl) stepR_inLoop)) harr₂⟩
      | exit id => exact ⟨_, a₁, w₁, hq, .pass (x := .inLoop c) rfl (fun _ _ => .inl (by simp)) harr⟩
      | goto l => exact ⟨_, a₁, w₁, hq, .pass (x := .inLoop c) rfl (fun _ _ => .inl (by simp)) harr⟩
      | ret => exact ⟨_, a₁, w₁, hq, .pass (x := .inLoop c) rfl (fun _ _ => .inl (by simp)) harr⟩
      | panic ch => exact ⟨_, a₁, w₁, hq, .pass (x := .inLoop c) rfl (fun _ _ => .inl (by simp)) harr⟩
      | outgrown => exact ⟨_, a₁, w₁, hq, .pass (x := .inLoop c) rfl (fun _ _ => .inl (by simp)) harr⟩
  obtain ⟨e, a', w', hq, harr⟩ := key m a w h0
  exact ⟨e, a', w', hq, .of_steps (.one (fenced_calm hb hr rfl) stepR_loop) harr⟩

theorem st_yield {ro : Option Nat} {m : Nat} {P : Program} {ops : Array Oper} {Q : Exit → Act → World → Prop} {o : Oper} {rest : List Oper} {a : Act} {w : World} {n d l : Nat} {L : List (Nat × Value)} {f x : Operand} {ts : Array TypeId} {v : Value} {R : Ending → World → Prop} (hE : Env n L a) (hw : Region.wanted o (yielded ops a.tmps) = true) (ho : o.op = .call { callee := .value f, args := #[x], argTypes := ts }) (hf : ev L f = some (.func (.yield l) #[] #[])) (hx : ev L x = some v) (hd : o.dst = some d) (hn : Nat.blt d n = true) (hY : YieldAt (FW ro) (m - 1) P l #[v] w R)
    (k : ∀ e w', R e w' → ∃ v, e = .returned v ∧ ∀ a', Env n ((d, v) :: L) a' → wpListIn (FW ro) m P ops Q rest a' w') : wpListIn (FW ro) m P ops Q (o :: rest) a w := by
  refine wpListIn_step fun K hK => ?_
  rw [if_pos hw]
  refine ⟨fun _ _ => trivial, ?_⟩
  rw [Oper.semAt_eq _ _ _ (fun c e => by rw [ho] at e; cases e)]
  obtain ⟨fn, tmps, assign, body, hy, hR⟩ := hY
  have hr : (execOp a.eval o).run P w = .ok (.round l fn tmps assign body) w := by
    unfold execOp
    have hxv := hE.ev hx
    simp only [ho, resolve, hE.ev hf, Deferred.ofValue, Sem.run_bind, Sem.run_pure, Result.andThen_ok, invoke, List.map_toArray, List.map_cons, List.map_nil, hxv]
    simpa using hy
  rw [hr]
  refine ⟨fun hq => by simp [Fence.wide] at hq, hR.mono fun e w' hRe => ?_⟩
  obtain ⟨v', rfl, hk⟩ := k e w' hRe
  rw [hd]
  exact hK _ _ (hk _ (hE.put hn v'))

/-- A block that holds o. -/
def rObj (l : Nat) (o : Obj) : Res := ⟨fun b => b = l, fun w => w.heap[l]? = some o, fun _ _ h hb => (h l rfl).trans hb⟩

theorem Held.allocO {M : Nat → Prop} {w0 : World} {rs : List Res} {w : World} (h : Held M w0 rs w) (o : Obj) : Held M w0 (rObj w.heap.size o :: rs) (w.alloc o) :=
  h.new ((Below.refl _ _).alloc (Nat.le_refl _) _) (rObj w.heap.size o) (World.alloc_heap_new w o) fun b (hb : b = _) => by subst hb; simp

theorem putO_chg {w : World} {l : Nat} {o : Obj} : Chg (fun b => b = l) w (w.putObj l o) := ⟨rfl, rfl, rfl, by rw [World.putObj_size]; exact Nat.le_refl _, fun k _ hk => World.putObj_heap_other hk⟩

theorem Held.putO {M : Nat → Prop} {w0 : World} {rs : List Res} {w : World} {l : Nat} {o : Obj} (h : Held M w0 (rObj l o :: rs) w) (o' : Obj) : Held M w0 (rObj l o' :: rs) (w.putObj l o') :=
  h.mut (i := 0) rfl putO_chg (rObj l o') (World.putObj_heap_same (h.rng _ List.mem_cons_self l rfl).2) fun _ hb => .inl hb

/-- The blocks of some parts. -/
abbrev bl (rs : List Res) : Nat → Prop := Foot rs

theorem Held.self {M : Nat → Prop} {w0 : World} {rs : List Res} {w : World} (h : Held M w0 rs w) : Held (bl rs) w rs w :=
  ⟨Chg.refl _ _, h.ok, fun r hr b hb => ⟨.inl ⟨r, hr, hb⟩, (h.rng r hr b hb).2⟩, h.sep⟩

theorem Held.perm {M : Nat → Prop} {w0 : World} {rs rs' : List Res} {w : World} (h : Held M w0 rs w) (hp : rs.Perm rs') : Held M w0 rs' w :=
  ⟨h.chg, fun r hr => h.ok r (hp.mem_iff.2 hr), fun r hr => h.rng r (hp.mem_iff.2 hr), (hp.pairwise_iff fun hxy b hb hb' => hxy b hb' hb).1 h.sep⟩

theorem Held.pre {M : Nat → Prop} {w0 : World} {rs ext : List Res} {w : World} (h : Held M w0 (rs ++ ext) w) : Held M w0 rs w :=
  ⟨h.chg, fun r hr => h.ok r (List.mem_append_left _ hr), fun r hr => h.rng r (List.mem_append_left _ hr), (List.pairwise_append.1 h.sep).1⟩

theorem Held.apart {M : Nat → Prop} {w0 : World} {rs ext : List Res} {w : World} (h : Held M w0 (rs ++ ext) w) {r : Res} (hr : r ∈ ext) {b : Nat} (hb : r.S b) : ¬ bl rs b :=
  fun ⟨s, hs, hsb⟩ => (List.pairwise_append.1 h.sep).2.2 s hs r hr b hsb hb

/-- What is done to some parts leaves the others alone. -/
theorem Held.frame {M : Nat → Prop} {w0 : World} {rs rs' ext : List Res} {w w' : World} (h : Held M w0 (rs ++ ext) w) (h' : Held (bl rs) w rs' w') : Held M w0 (rs' ++ ext) w' where
  chg := by
    refine ⟨h'.chg.os.trans h.chg.os, h'.chg.tape.trans h.chg.tape, h'.chg.output.trans h.chg.output, Nat.le_trans h.chg.size h'.chg.size, fun k hk hM => ?_⟩
    refine (h'.chg.block k (Nat.lt_of_lt_of_le hk h.chg.size) ?_).trans (h.chg.block k hk hM)
    rintro ⟨r, hr, hb⟩
    rcases (h.rng r (List.mem_append_left _ hr) k hb).1 with h1 | h1
    · exact hM h1
    · omega
  ok := by
    intro r hr
    rcases List.mem_append.1 hr with hr | hr
    · exact h'.ok r hr
    · exact r.loc _ _ (fun b hb => h'.chg.block b (h.rng r (List.mem_append_right _ hr) b hb).2 (h.apart hr hb)) (h.ok r (List.mem_append_right _ hr))
  rng := by
    intro r hr b hb
    rcases List.mem_append.1 hr with hr | hr
    · have h1 := h'.rng r hr b hb
      refine ⟨?_, h1.2⟩
      rcases h1.1 with ⟨s, hs, hsb⟩ | h2
      · exact (h.rng s (List.mem_append_left _ hs) b hsb).1
      · exact .inr (Nat.le_trans h.size h2)
    · have h1 := h.rng r (List.mem_append_right _ hr) b hb
      exact ⟨h1.1, Nat.lt_of_lt_of_le h1.2 h'.chg.size⟩
  sep := by
    refine List.pairwise_append.2 ⟨h'.sep, (List.pairwise_append.1 h.sep).2.1, fun r hr s hs b hb hb' => ?_⟩
    rcases (h'.rng r hr b hb).1 with h1 | h1
    · exact h.apart hs hb' h1
    · have := (h.rng s (List.mem_append_right _ hs) b hb').2; omega

theorem Held.cellB {M : Nat → Prop} {w0 : World} {rs : List Res} {w : World} (h : Held M w0 rs w) {g : Nat} {t : TypeId} {v : Value} (hr : rBlk g t [v] ∈ rs) : w.cell? ⟨g, 0, none⟩ = some v := by
  have h1 : Blk w g t #[v] := h.ok _ hr
  have h2 := h1.cell 0
  simpa using h2

def Act.w (ds : List Deferred) (a : Act) : Act := { a with defers := ds }

theorem put_w (ds : List Deferred) (a : Act) (d : Option Tmp) (v : Value) : (Act.w ds a).put d v = Act.w ds (a.put d v) := by
  cases d <;> rfl

/-- The slots L are known; the calls ds are set down. -/
structure EnvD (n : Nat) (ds : List Deferred) (L : List (Nat × Value)) (a : Act) : Prop where
  e : Env n L (Act.w [] a)
  d : a.defers = ds

theorem EnvD.put {n : Nat} {ds : List Deferred} {L : List (Nat × Value)} {a : Act} {d : Nat} (h : EnvD n ds L a) (hd : Nat.blt d n = true) (v : Value) : EnvD n ds ((d, v) :: L) (a.put (some d) v) :=
  ⟨by rw [← put_w]; exact h.e.put hd v, h.d⟩

theorem EnvD.of {n : Nat} {ds : List Deferred} {L : List (Nat × Value)} {a : Act} (h : Env n L a) : EnvD n ds L { a with defers := ds } :=
  ⟨by have : Act.w [] { a with defers := ds } = a := by unfold Act.w; rw [← h.defers]
      rw [this]; exact h, rfl⟩

theorem plD_x {P : Program} {S : World → Prop} {ops : Array Oper} {Q : Exit → Act → World → Prop} {o : Oper} {rest : List Oper} {a : Act} {w : World} {n d : Nat} {ds : List Deferred} {L : List (Nat × Value)} {v : Value} (hE : EnvD n ds L a) (hS : S w) (hg : o.guard = none) (hx : XS P S L o v) (hd : o.dst = some d) (hn : Nat.blt d n = true)
    (k : ∀ a', EnvD n ds ((d, v) :: L) a' → wpList P ops Q rest a' w) : wpList P ops Q (o :: rest) a w := by
  refine pl fun K hK => ?_
  unfold Stp; rw [if_pos (wt0 hg)]; unfold Oper.wp
  rw [show a.eval = (Act.w [] a).eval from rfl, hx _ _ _ hE.e hS]; simp only [Oper.upon]; rw [hd]; exact hK _ _ (k _ (hE.put hn v))

theorem plD_call {P : Program} {ops : Array Oper} {Q : Exit → Act → World → Prop} {o : Oper} {rest : List Oper} {a : Act} {w : World} {n d F : Nat} {ds : List Deferred} {L : List (Nat × Value)} {f : Operand} {xs : List Operand} {ts : Array TypeId} {vs : List Value} {R : Ending → World → Prop}
    (hE : EnvD n ds L a) (hg : o.guard = none) (ho : o.op = .call { callee := .value f, args := xs.toArray, argTypes := ts }) (hf : ev L f = some (.func (.func F) #[] #[])) (hx : evs L xs = some vs)
    (hen : ∀ args w, (callFunc F args).run P w = .ok (.enter F args) w) (hd : o.dst = some d) (hn : Nat.blt d n = true) (hc : Calls P F vs.toArray w R)
    (k : ∀ e w', R e w' → ∃ v, e = .returned v ∧ ∀ a', EnvD n ds ((d, v) :: L) a' → wpList P ops Q rest a' w') : wpList P ops Q (o :: rest) a w := by
  refine pl fun K hK => ?_
  unfold Stp; rw [if_pos (wt0 hg)]; unfold Oper.wp
  have hr : (execOp a.eval o).run P w = .ok (.enter F vs.toArray) w := by
    rw [show a.eval = (Act.w [] a).eval from rfl]
    unfold execOp
    simp only [ho, resolve, hE.e.ev hf, Deferred.ofValue, Sem.run_bind, Sem.run_pure, Result.andThen_ok, invoke, List.map_toArray, evs_map hE.e xs vs hx]
    simpa using hen vs.toArray w
  rw [hr]; simp only [Oper.upon]; rw [hd]
  refine hc.mono fun e w' hR => ?_
  obtain ⟨v, rfl, h⟩ := k e w' hR
  exact hK _ _ (h _ (hE.put hn v))

abbrev markD (D : Nat) : List Deferred := [{ target := .collected D, args := #[] }]

theorem retM {F : Fence} {m : Nat} {P : Program} {fn : Func} {R : Ending → World → Prop} {a : Act} {w : World} (h : bodyPost P fn R .ret a w) : bodyPostM F m P fn R .ret a w := by
  obtain ⟨hd, v, hr, hR⟩ := h
  show LeavesInM F m P fn a.tmps R a.defers .returning w
  rw [hd]; exact ⟨v, hr, hR⟩

theorem retD {F : Fence} {m : Nat} {P : Program} {fn : Func} {R : Ending → World → Prop} {a : Act} {w : World} {n D t : Nat} {L : List (Nat × Value)} {v : Value} (hE : EnvD n (markD D) L a) (hD : w.heap[D]? = some (.deferred (some []))) (hr : fn.results = #[.tmp t]) (hl : lk t L = some v) (hR : R (.returned v) (w.putObj D (.deferred none))) : bodyPostM F m P fn R .ret a w := by
  have h1 := ret1 (P := P) (R := R) (w := w.putObj D (.deferred none)) hE.e hr (rv_tmp hl) hR
  obtain ⟨_, u, hu, hRu⟩ := h1
  show LeavesInM F m P fn a.tmps R a.defers .returning w
  rw [hE.d]
  exact ⟨by simp, .inl ⟨D, _, rfl, run_takeDeferred hD, u, hu, hRu⟩⟩

theorem enterM {P : Program} {f : FuncId} {fn : Func} {c : Code} {vs : List Value} {w : World} {R : Ending → World → Prop} {n : Nat} (hf : P.funcs[f]? = some fn) (hb : fn.body = some c) (hn : fn.ntmps = n) (hl : Nat.ble vs.length n = true)
    (k : ∀ a, Env n (argL 0 vs) a → c.wp P (bodyPostM Fence.wide 3 P fn R) a w) : Calls P f vs.toArray w R := by
  refine (callsIn_wide (n := 3)).1 (callsIn_of_wp_marks hf hb trivial (wpIn_wide.2 (k _ ?_)))
  subst hn
  exact Env.start (fun t v h => by have := lk_argL vs 0 t v h; simpa using this.2) (Nat.le_of_ble_eq_true hl)

def bodyR (J : World → Prop) : Exit → Act → World → Prop
  | .normal, _, w => J w
  | _, _, _ => False

/-- What the iterator is told of a round. -/
abbrev RoundJ (P : Program) (m l : Nat) (v : Value) (W : World) (J : World → Prop) : Prop :=
  YieldAt Fence.wide m P l #[v] W fun e W' => e = .returned (.bool true) ∧ J W'

theorem envA {n p : Nat} {L : List (Nat × Value)} {a : Act} {v : Value} (hE : Env n L a) (hp : Nat.blt p n = true) : Env n ((p, v) :: L) { tmps := a.tmps.setIfInBounds p v, defers := [] } := by
  have h := hE.put hp v
  have hd := hE.defers
  have e : a.put (some p) v = { tmps := a.tmps.setIfInBounds p v, defers := [] } := by
    unfold Act.put; rw [hd]
  rwa [e] at h

theorem wp_rangeH {P : Program} {Q : Exit → Act → World → Prop} {a : Act} {w : World} {g : Operand} {p : Tmp} {assign body : Code} {gf n q1 q2 : Nat} {t1 t2 : TypeId} {v1 v2 : Value} {L : List (Nat × Value)} {M0 : Nat → Prop} {w0 : World} {rs0 ext : List Res} (N : Nat) (Fam : Nat → List Res → Prop) (x : Nat → Value)
    (hE : Env n L a) (hp : Nat.blt p n = true) (hg : ev L g = some (.func (.func gf) #[] #[.pointer (some ⟨q1, 0, none⟩), .pointer (some ⟨q2, 0, none⟩)])) (eg : ∀ args w, (callFunc gf args).run P w = .ok (.enter gf args) w)
    (H : Held M0 w0 (rs0 ++ ext) w) (hF : Fam 0 rs0) (h1 : rBlk q1 t1 [v1] ∈ ext) (h2 : rBlk q2 t2 [v2] ∈ ext)
    (hit : ∀ (l : Nat) (F : Nat → List Res → Prop) (M : Nat → Prop) (W0 : World) (rs : List Res), F 0 rs → Held M W0 rs W0 → W0.cell? ⟨q1, 0, none⟩ = some v1 → W0.cell? ⟨q2, 0, none⟩ = some v2 → q1 < W0.heap.size → q2 < W0.heap.size → ¬ M q1 → ¬ M q2 →
      (∀ k, k < N → ∀ rs W, F k rs → Held M W0 rs W → RoundJ P 2 l (x k) W fun W' => ∃ rs', F (k + 1) rs' ∧ Held M W0 rs' W') →
      Calls P gf #[.func (.yield l) #[] #[], .pointer (some ⟨q1, 0, none⟩), .pointer (some ⟨q2, 0, none⟩)] W0 fun e W' => (∃ v, e = .returned v) ∧ ∃ rs', F N rs' ∧ Held M W0 rs' W')
    (hround : ∀ (l k : Nat) (rs : List Res) (W : World) (K : Act → World → Prop) (a1 : Act), k < N → Fam k rs → Held M0 w0 (rs ++ ext) W → Env n ((p, x k) :: L) a1 → (∀ a2, (∀ W, Held M0 w0 (rs ++ ext) W → Held (bl rs) W rs W → body.wpIn (FW (some l)) 2 P (bodyR fun w' => ∃ rs', Fam (k + 1) rs' ∧ Held (bl rs) W rs' w') a2 W) → K a2 W) →
      assign.wpIn (FW (some l)) 2 P (Exit.then K (fun _ _ _ => False)) a1 W)
    (hdone : ∀ D rs W, Fam N rs → Held M0 w0 (rs ++ rObj D (.deferred (some [])) :: ext) W → Q .normal { a with defers := markD D } W) :
    (Code.rangeFunc g #[p] assign body).wp P Q a w := by
  refine (wpIn_wide (n := 3)).1 (wpIn_rangeFunc fun fn _ => ?_)
  obtain ⟨rec, hrec⟩ : ∃ rec : LoopState → Loop, rec = fun st => { state := st, pending := none, fn, tmps := a.tmps, params := #[p], assign, body, defers := w.heap.size } := ⟨_, rfl⟩
  have H1 : Held M0 w0 (rObj (w.heap.size + 1) (.loop (rec .ready)) :: rObj w.heap.size (.deferred (some [])) :: (rs0 ++ ext)) ((w.alloc (.deferred (some []))).alloc (.loop (rec .ready))) := by
    have := (H.allocO (.deferred (some []))).allocO (.loop (rec .ready))
    rwa [World.size_alloc] at this
  obtain ⟨W1, hW1⟩ : ∃ W1, (w.alloc (.deferred (some []))).alloc (.loop (rec .ready)) = W1 := ⟨_, rfl⟩
  obtain ⟨l, hl⟩ : ∃ l, w.heap.size + 1 = l := ⟨_, rfl⟩
  obtain ⟨D, hD⟩ : ∃ D, w.heap.size = D := ⟨_, rfl⟩
  rw [hW1, hl] at H1
  have H2 : Held M0 w0 ((rObj l (.loop (rec .ready)) :: rs0) ++ rObj D (.deferred (some [])) :: ext) W1 := by
    rw [← hD]; exact H1.perm ((List.perm_middle (l₁ := rs0)).symm.cons _)
  have H3 := H2.pre.self
  refine ⟨l, markD D, W1, { target := .fn (.func gf) #[.pointer (some ⟨q1, 0, none⟩), .pointer (some ⟨q2, 0, none⟩)], args := #[.func (.yield l) #[] #[]] }, W1, gf, #[.func (.yield l) #[] #[], .pointer (some ⟨q1, 0, none⟩), .pointer (some ⟨q2, 0, none⟩)], W1, ?_, ?_, fun _ _ => trivial, ?_, fun _ => by omega, ?_⟩
  · rw [← hW1, ← hl, ← hD, hrec]; exact run_enterLoop_outer _ _ _ _ _
  · have hev := hE.ev hg
    simp only [resolve, hev]
    simp [go_sem]
  · simp [invoke, go_sem, eg]
  · refine callsIn_w (ro := none) ((hit l (fun k rs => ∃ q, Fam k q ∧ rs = rObj l (.loop (rec .ready)) :: q) (bl (rObj l (.loop (rec .ready)) :: rs0)) W1 _ ⟨_, hF, rfl⟩ H3 ?_ ?_ ?_ ?_ ?_ ?_ ?_).mono ?_)
    · exact H2.cellB (List.mem_append_right _ (List.mem_cons_of_mem _ h1))
    · exact H2.cellB (List.mem_append_right _ (List.mem_cons_of_mem _ h2))
    · exact (H2.rng _ (List.mem_append_right _ (List.mem_cons_of_mem _ h1)) q1 rfl).2
    · exact (H2.rng _ (List.mem_append_right _ (List.mem_cons_of_mem _ h2)) q2 rfl).2
    · exact H2.apart (List.mem_cons_of_mem _ h1) rfl
    · exact H2.apart (List.mem_cons_of_mem _ h2) rfl
    · rintro k hk rs W ⟨q, hq, rfl⟩ HW
      have hlh : W.heap[l]? = some (.loop (rec .ready)) := HW.ok _ List.mem_cons_self
      have hy := run_yield (P := P) (args := #[x k]) hlh (by rw [hrec]; rfl)
      have hy2 : (Instr.yield l #[x k]).run P W = .ok (.round l fn (a.tmps.setIfInBounds p (x k)) assign body) W := by rw [hy, hrec]; simp
      refine ⟨fn, _, assign, body, hy2, roundIn_of_wpIn trivial ?_⟩
      have hpm : ∀ q o, ((rObj l o :: q) ++ rObj D (.deferred (some [])) :: ext).Perm ((q ++ ext) ++ [rObj l o, rObj D (.deferred (some []))]) := fun q o =>
        (List.Perm.cons _ (List.perm_middle (l₁ := q))).trans (List.perm_append_comm (l₁ := [rObj l o, rObj D (.deferred (some []))]) (l₂ := q ++ ext))
      have HX1 : Held M0 w0 (q ++ ext) W := ((H2.frame HW).perm (hpm _ _)).pre
      refine hround l k q W _ _ hk hq HX1 (envA hE hp) fun a2 hb => ?_
      refine ⟨W.putObj l (.loop (rec .busy)), ?_, ?_⟩
      · have := run_beginRound (P := P) hlh (by rw [hrec])
        rw [hrec] at this ⊢; exact this
      · have HP : Held (bl (rObj l (.loop (rec .ready)) :: rs0)) W1 (rObj l (.loop (rec .busy)) :: q) (W.putObj l (.loop (rec .busy))) := HW.putO _
        have HX2 : Held M0 w0 (q ++ ext) (W.putObj l (.loop (rec .busy))) := ((H2.frame HP).perm (hpm _ _)).pre
        refine wpIn_mono (hb _ HX2 HX2.pre.self) ?_
        intro e a3 w3 hR
        cases e with
        | normal =>
          obtain ⟨q', hq', Hw⟩ := hR
          have HY := ((HP.perm (List.perm_append_singleton _ q).symm).frame Hw).perm (List.perm_append_singleton _ q')
          have hlb : w3.heap[l]? = some (.loop (rec .busy)) := HY.ok _ List.mem_cons_self
          have hend := run_endRound (P := P) none hlb
          have hrd : ({ rec .busy with state := if (none : Option Code).isNone then LoopState.ready else LoopState.done, pending := none } : Loop) = rec .ready := by rw [hrec]; rfl
          rw [hrd] at hend
          exact ⟨_, _, hend, rfl, _, ⟨q', hq', rfl⟩, HY.putO _⟩
        | _ => exact hR.elim
    · rintro e W2 ⟨⟨v, rfl⟩, rs', ⟨q, hq, rfl⟩, HW⟩
      have hlh : W2.heap[l]? = some (.loop (rec .ready)) := HW.ok _ List.mem_cons_self
      have hend := run_endLoop (P := P) hlh (by rw [hrec]; simp)
      have hpe : (rec .ready).pending = none := by rw [hrec]
      rw [hpe] at hend
      refine ⟨none, _, hend, ?_⟩
      show Q .normal { a with defers := markD D ++ a.defers } _
      rw [hE.defers, List.append_nil]
      refine hdone D q _ hq ?_
      have HZ : Held M0 w0 (rObj l (.loop (rec .ready)) :: (q ++ rObj D (.deferred (some [])) :: ext)) W2 := H2.frame HW
      exact ((HZ.putO _).perm (List.perm_append_singleton _ _).symm).pre

theorem list_in {ro : Option Nat} {n : Nat} {P : Program} {ops : Array Oper} {Q : Exit → Act → World → Prop} (hX : ¬ LetsOut Q) : ∀ l : List Oper, l.all noDef = true → ∀ a w, wpList P ops Q l a w → wpListIn (FW ro) n P ops Q l a w
  | [], _, _, _, h => h
  | o :: rest, hd, a, w, h => by
    simp only [List.all_cons, Bool.and_eq_true] at hd
    unfold wpList at h
    unfold wpListIn
    split
    · rename_i hw
      rw [if_pos hw] at h
      rcases h with h | h
      · exact op_in hd.1 (Oper.wp_mono (fun a w => list_in hX rest hd.2 a w) h)
      · exact absurd h.2 hX
    · rename_i hw
      rw [if_neg hw] at h
      exact ⟨fun _ _ => trivial, list_in hX rest hd.2 _ _ h⟩

theorem rgN {ro : Option Nat} {n : Nat} {P : Program} {Q : Exit → Act → World → Prop} {a : Act} {w : World} {id : Nat} {l : List Oper} (hX : ¬ LetsOut Q) (hd : l.all noDef = true) (h : wpList P l.toArray Q l a w) : (Code.region id l.toArray false).wpIn (FW ro) n P Q a w := rgI (list_in hX l hd a w h)

theorem rgW {n : Nat} {P : Program} {Q : Exit → Act → World → Prop} {a : Act} {w : World} {id : Nat} {l : List Oper} (h : wpListIn (FW none) n P l.toArray Q l a w) : (Code.region id l.toArray false).wp P Q a w := wpIn_wide.1 (rgI (ro := none) h)

/-- The body of the range over a function in a piece of code. -/
def rbody : Code → Option Code
  | .rangeFunc _ _ _ b => some b
  | .seq x y => (rbody x).or (rbody y)
  | .block _ x => rbody x
  | .cond _ x y => (rbody x).or (rbody y)
  | _ => none

theorem bodyOf {fn : Func} {c : Code} {Pr : Code → Prop} (hc : fn.body.bind rbody = some c) (h : Pr c) : ∀ d, fn.body.bind rbody = some d → Pr d := fun d hd => by rw [hc] at hd; cases hd; exact h

theorem bodyR_n {J : World → Prop} {a : Act} {w : World} (h : J w) : bodyR J .normal a w := h

theorem x_sliceM {P : Program} {S : World → Prop} {L : List (Nat × Value)} {d : Option Tmp} {x lo hi mx : Operand} {t e : TypeId} {sz by_ : Nat} {A : Option Addr} {n c k k2 k3 r r2 : Nat} {m m2 m3 : Int} {q q2 q3 : IntKind} {ty : TypeId} {pos : String} {af : Array Edge} {g : Option (Nat × Bool)} (ht : TSl P t e sz by_) (hx : ev L x = some (.slice A n c)) (hlo : ev L lo = some (.int q m)) (hhi : ev L hi = some (.int q2 m2)) (hmx : ev L mx = some (.int q3 m3)) (hm : m = (k : Int)) (hm2 : m2 = (k2 : Int)) (hm3 : m3 = (k3 : Int)) (hk : k ≤ k2) (hk2 : k2 ≤ k3) (hk3 : k3 ≤ c) (hr : k2 - k = r) (hr2 : k3 - k = r2) : XS P S L ⟨d, .slice t x (some lo) (some hi) (some mx), ty, pos, af, g⟩ (.slice (cutA A k3 k sz) r r2) := fun _ _ w hE _ => by
  obtain ⟨i, z, h1, _, h2, _⟩ := ht.info
  subst hm hm2 hm3 h2 hr hr2
  have h3 : (0 : Int) ≤ (k : Int) ∧ (k : Int) ≤ (k2 : Int) := by omega
  have h4 : (0 : Int) ≤ (k2 : Int) ∧ (k2 : Int) ≤ (k3 : Int) := by omega
  have h5 : (0 : Int) ≤ (k3 : Int) ∧ (k3 : Int) ≤ (c : Int) := by omega
  simp [execOp, hE.ev hx, hE.ev hlo, hE.ev hhi, hE.ev hmx, Instr.sliceAt, Instr.slice, run_underlying ht.under, Instr.sliceBounds, Instr.sliceBound, asIntOf, sizeOf, typeInfo, h1, hk, hk2, hk3, cutA]

/-- A part of a slice, with no room behind it. -/
theorem Sl.cutM {α : Type} {E : Enc α} {w : World} {S : Nat → Prop} {A : Option Addr} {c : Nat} {xs : List α} (h : Sl E w S A c xs) {l r : Nat} (hr : 1 ≤ r) (hl : l + r ≤ xs.length) : Sl E w S (cutA A (l + r) l E.size) r ((xs.drop l).take r) := by
  have h1 := h.1
  have h2 := (h.cutD l).take r
  have e : cutA A c l E.size = cutA A (l + r) l E.size := by
    unfold cutA
    rw [if_neg (by omega), if_neg (by omega)]
  rw [e] at h2
  have hlen : ((xs.drop l).take r).length = r := len_cut xs l r hl
  exact ⟨by omega, by have := h2.2.1; omega, h2.2.2⟩

theorem one_cell {w : World} {g : Nat} {u : Value} (h : w.cell? ⟨g, 0, none⟩ = some u) : ∀ j v, ([u] : List Value)[j]? = some v → w.cell? ⟨g, 0 + j, none⟩ = some v := by
  intro j v hj
  rcases j with _ | j
  · simp only [List.getElem?_cons_zero, Option.some.injEq] at hj
    subst hj; exact h
  · simp at hj

theorem wpI_join {ro : Option Nat} {n : Nat} {P : Program} {c : Code} {Q : Exit → Act → World → Prop} {a : Act} {w : World} (J : Act → World → Prop) (h1 : c.wpIn (FW ro) n P (Exit.then J Q) a w) (h2 : ∀ a w, J a w → Q .normal a w) : c.wpIn (FW ro) n P Q a w := by
  refine wpIn_mono h1 fun e a w h => ?_
  cases e with
  | normal => exact h2 a w h
  | _ => exact h

theorem tv_2 : TV Tryz.prog 2 false [.int .i64 0] := by
  obtain ⟨i, h1, h2, h3⟩ := tv_parts (show (Tryz.prog.info? 2).map (fun i => (i.zero, i.size)) = some (some (.int .i64 0), 1) from by kernel_rfl)
  exact ⟨⟨_, Tryz.underlying2, rfl⟩, i, _, h1, h2, h3, rfl⟩

theorem tv_3 : TV Tryz.prog 3 false [.int .i64 0] := by
  obtain ⟨i, h1, h2, h3⟩ := tv_parts (show (Tryz.prog.info? 3).map (fun i => (i.zero, i.size)) = some (some (.int .i64 0), 1) from by kernel_rfl)
  exact ⟨⟨_, Tryz.underlying3, rfl⟩, i, _, h1, h2, h3, rfl⟩

theorem tv_9 : TV Tryz.prog 9 false [.string ByteArray.empty] := by
  obtain ⟨i, h1, h2, h3⟩ := tv_parts (show (Tryz.prog.info? 9).map (fun i => (i.zero, i.size)) = some (some (.string ByteArray.empty), 1) from by kernel_rfl)
  exact ⟨⟨_, Tryz.underlying9, rfl⟩, i, _, h1, h2, h3, rfl⟩

theorem tv_22 : TV Tryz.prog 22 false [.slice none 0 0] := by
  obtain ⟨i, h1, h2, h3⟩ := tv_parts (show (Tryz.prog.info? 22).map (fun i => (i.zero, i.size)) = some (some (.slice none 0 0), 1) from by kernel_rfl)
  exact ⟨⟨_, Tryz.underlying22, rfl⟩, i, _, h1, h2, h3, rfl⟩

theorem tv_24 : TV Tryz.prog 24 true [.int .i64 0, .int .i64 0, .slice none 0 0] := by
  obtain ⟨i, h1, h2, h3⟩ := tv_parts (show (Tryz.prog.info? 24).map (fun i => (i.zero, i.size)) = some (some (.agg #[.int .i64 0, .int .i64 0, .slice none 0 0]), 3) from by kernel_rfl)
  exact ⟨⟨_, Tryz.underlying24, rfl⟩, i, _, h1, h2, h3, rfl⟩

theorem tv_30 : TV Tryz.prog 30 false [.slice none 0 0] := by
  obtain ⟨i, h1, h2, h3⟩ := tv_parts (show (Tryz.prog.info? 30).map (fun i => (i.zero, i.size)) = some (some (.slice none 0 0), 1) from by kernel_rfl)
  exact ⟨⟨_, Tryz.underlying30, rfl⟩, i, _, h1, h2, h3, rfl⟩

theorem tv_34 : TV Tryz.prog 34 true [.int .i64 0, .int .i64 0, .int .i64 0] := by
  obtain ⟨i, h1, h2, h3⟩ := tv_parts (show (Tryz.prog.info? 34).map (fun i => (i.zero, i.size)) = some (some (.agg #[.int .i64 0, .int .i64 0, .int .i64 0]), 3) from by kernel_rfl)
  exact ⟨⟨_, Tryz.underlying34, rfl⟩, i, _, h1, h2, h3, rfl⟩

theorem ts_22 : TSl Tryz.prog 22 34 3 24 := by
  obtain ⟨i, h1, h2, h3, h4⟩ := ts_parts (show (Tryz.prog.info? 34).map (fun i => (i.zero, i.size, i.bytes)) = some (some (.agg #[.int .i64 0, .int .i64 0, .int .i64 0]), 3, 24) from by kernel_rfl)
  exact ⟨Tryz.underlying22, i, _, h1, h2, h3, h4, rfl⟩

theorem fa_24_0 : ∀ b o w, (Instr.fieldAt 24 (.pointer (some ⟨b, o, none⟩)) 0).run Tryz.prog w = .ok (.pointer (some ⟨b, o + 0, none⟩)) w := by
  obtain ⟨i, z, h1, _, h3, _⟩ := tv_2.info
  exact fun b o w => fieldAt_of (f := 0) Tryz.underlying24 rfl h1 (by rw [h3]; decide) b o w

theorem fa_24_1 : ∀ b o w, (Instr.fieldAt 24 (.pointer (some ⟨b, o, none⟩)) 1).run Tryz.prog w = .ok (.pointer (some ⟨b, o + 1, none⟩)) w := by
  obtain ⟨i, z, h1, _, h3, _⟩ := tv_2.info
  exact fun b o w => fieldAt_of (f := 1) Tryz.underlying24 rfl h1 (by rw [h3]; decide) b o w

theorem fa_24_2 : ∀ b o w, (Instr.fieldAt 24 (.pointer (some ⟨b, o, none⟩)) 2).run Tryz.prog w = .ok (.pointer (some ⟨b, o + 2, none⟩)) w := by
  obtain ⟨i, z, h1, _, h3, _⟩ := tv_22.info
  exact fun b o w => fieldAt_of (f := 2) Tryz.underlying24 rfl h1 (by rw [h3]; decide) b o w

theorem tb_24 : TB Tryz.prog 24 [.int .i64 0, .int .i64 0, .slice none 0 0] := by
  refine ⟨tv_24, _, #[(0, 1), (1, 1), (2, 1)], Tryz.underlying24, fun w => ?_, fun i hi => ?_⟩
  · obtain ⟨i2, z2, h2, _, s2, _⟩ := tv_2.info; simp only [List.length_cons, List.length_nil] at s2; obtain ⟨i22, z22, h22, _, s22, _⟩ := tv_22.info; simp only [List.length_cons, List.length_nil] at s22
    simp [sizeOf, typeInfo, h2, s2, h22, s22]
  · simp only [List.length_cons, List.length_nil] at hi
    match i, hi with
    | 0, _ => rfl
    | 1, _ => rfl
    | 2, _ => rfl

theorem ts_30 : TSl Tryz.prog 30 9 1 16 := by
  obtain ⟨i, h1, h2, h3, h4⟩ := ts_parts (show (Tryz.prog.info? 9).map (fun i => (i.zero, i.size, i.bytes)) = some (some (.string ByteArray.empty), 1, 16) from by kernel_rfl)
  exact ⟨Tryz.underlying30, i, _, h1, h2, h3, h4, rfl⟩

theorem fa_34_0 : ∀ b o w, (Instr.fieldAt 34 (.pointer (some ⟨b, o, none⟩)) 0).run Tryz.prog w = .ok (.pointer (some ⟨b, o + 0, none⟩)) w := by
  obtain ⟨i, z, h1, _, h3, _⟩ := tv_2.info
  exact fun b o w => fieldAt_of (f := 0) Tryz.underlying34 rfl h1 (by rw [h3]; decide) b o w

theorem fa_34_1 : ∀ b o w, (Instr.fieldAt 34 (.pointer (some ⟨b, o, none⟩)) 1).run Tryz.prog w = .ok (.pointer (some ⟨b, o + 1, none⟩)) w := by
  obtain ⟨i, z, h1, _, h3, _⟩ := tv_2.info
  exact fun b o w => fieldAt_of (f := 1) Tryz.underlying34 rfl h1 (by rw [h3]; decide) b o w

theorem fa_34_2 : ∀ b o w, (Instr.fieldAt 34 (.pointer (some ⟨b, o, none⟩)) 2).run Tryz.prog w = .ok (.pointer (some ⟨b, o + 2, none⟩)) w := by
  obtain ⟨i, z, h1, _, h3, _⟩ := tv_2.info
  exact fun b o w => fieldAt_of (f := 2) Tryz.underlying34 rfl h1 (by rw [h3]; decide) b o w

theorem tb_34 : TB Tryz.prog 34 [.int .i64 0, .int .i64 0, .int .i64 0] := by
  refine ⟨tv_34, _, #[(0, 1), (1, 1), (2, 1)], Tryz.underlying34, fun w => ?_, fun i hi => ?_⟩
  · obtain ⟨i2, z2, h2, _, s2, _⟩ := tv_2.info; simp only [List.length_cons, List.length_nil] at s2
    simp [sizeOf, typeInfo, h2, s2]
  · simp only [List.length_cons, List.length_nil] at hi
    match i, hi with
    | 0, _ => rfl
    | 1, _ => rfl
    | 2, _ => rfl

theorem en_4 : ∀ args w, (callFunc 4 args).run Tryz.prog w = .ok (.enter 4 args) w := enters_of Tryz.func4 (by kernel_rfl) rfl

theorem en_5 : ∀ args w, (callFunc 5 args).run Tryz.prog w = .ok (.enter 5 args) w := enters_of Tryz.func5 (by kernel_rfl) rfl

theorem en_6 : ∀ args w, (callFunc 6 args).run Tryz.prog w = .ok (.enter 6 args) w := enters_of Tryz.func6 (by kernel_rfl) rfl

theorem en_7 : ∀ args w, (callFunc 7 args).run Tryz.prog w = .ok (.enter 7 args) w := enters_of Tryz.func7 (by kernel_rfl) rfl

theorem en_8 : ∀ args w, (callFunc 8 args).run Tryz.prog w = .ok (.enter 8 args) w := enters_of Tryz.func8 (by kernel_rfl) rfl

theorem en_9 : ∀ args w, (callFunc 9 args).run Tryz.prog w = .ok (.enter 9 args) w := enters_of Tryz.func9 (by kernel_rfl) rfl

theorem en_10 : ∀ args w, (callFunc 10 args).run Tryz.prog w = .ok (.enter 10 args) w := enters_of Tryz.func10 (by kernel_rfl) rfl

theorem en_11 : ∀ args w, (callFunc 11 args).run Tryz.prog w = .ok (.enter 11 args) w := enters_of Tryz.func11 (by kernel_rfl) rfl

theorem en_12 : ∀ args w, (callFunc 12 args).run Tryz.prog w = .ok (.enter 12 args) w := enters_of Tryz.func12 (by kernel_rfl) rfl

theorem en_13 : ∀ args w, (callFunc 13 args).run Tryz.prog w = .ok (.enter 13 args) w := enters_of Tryz.func13 (by kernel_rfl) rfl

theorem en_14 : ∀ args w, (callFunc 14 args).run Tryz.prog w = .ok (.enter 14 args) w := enters_of Tryz.func14 (by kernel_rfl) rfl

theorem en_18 : ∀ args w, (callFunc 18 args).run Tryz.prog w = .ok (.enter 18 args) w := enters_of Tryz.func18 (by kernel_rfl) rfl

theorem en_19 : ∀ args w, (callFunc 19 args).run Tryz.prog w = .ok (.enter 19 args) w := enters_of Tryz.func19 (by kernel_rfl) rfl

theorem en_20 : ∀ args w, (callFunc 20 args).run Tryz.prog w = .ok (.enter 20 args) w := enters_of Tryz.func20 (by kernel_rfl) rfl

theorem en_22 : ∀ args w, (callFunc 22 args).run Tryz.prog w = .ok (.enter 22 args) w := enters_of Tryz.func22 (by kernel_rfl) rfl

theorem en_23 : ∀ args w, (callFunc 23 args).run Tryz.prog w = .ok (.enter 23 args) w := enters_of Tryz.func23 (by kernel_rfl) rfl

theorem en_24 : ∀ args w, (callFunc 24 args).run Tryz.prog w = .ok (.enter 24 args) w := enters_of Tryz.func24 (by kernel_rfl) rfl

theorem en_25 : ∀ args w, (callFunc 25 args).run Tryz.prog w = .ok (.enter 25 args) w := enters_of Tryz.func25 (by kernel_rfl) rfl

theorem en_26 : ∀ args w, (callFunc 26 args).run Tryz.prog w = .ok (.enter 26 args) w := enters_of Tryz.func26 (by kernel_rfl) rfl

theorem en_27 : ∀ args w, (callFunc 27 args).run Tryz.prog w = .ok (.enter 27 args) w := enters_of Tryz.func27 (by kernel_rfl) rfl

theorem en_28 : ∀ args w, (callFunc 28 args).run Tryz.prog w = .ok (.enter 28 args) w := enters_of Tryz.func28 (by kernel_rfl) rfl

theorem en_29 : ∀ args w, (callFunc 29 args).run Tryz.prog w = .ok (.enter 29 args) w := enters_of Tryz.func29 (by kernel_rfl) rfl

theorem en_30 : ∀ args w, (callFunc 30 args).run Tryz.prog w = .ok (.enter 30 args) w := enters_of Tryz.func30 (by kernel_rfl) rfl

theorem en_31 : ∀ args w, (callFunc 31 args).run Tryz.prog w = .ok (.enter 31 args) w := enters_of Tryz.func31 (by kernel_rfl) rfl

theorem en_32 : ∀ args w, (callFunc 32 args).run Tryz.prog w = .ok (.enter 32 args) w := enters_of Tryz.func32 (by kernel_rfl) rfl

theorem en_34 : ∀ args w, (callFunc 34 args).run Tryz.prog w = .ok (.enter 34 args) w := enters_of Tryz.func34 (by kernel_rfl) rfl

theorem en_35 : ∀ args w, (callFunc 35 args).run Tryz.prog w = .ok (.enter 35 args) w := enters_of Tryz.func35 (by kernel_rfl) rfl

theorem en_36 : ∀ args w, (callFunc 36 args).run Tryz.prog w = .ok (.enter 36 args) w := enters_of Tryz.func36 (by kernel_rfl) rfl

theorem en_37 : ∀ args w, (callFunc 37 args).run Tryz.prog w = .ok (.enter 37 args) w := enters_of Tryz.func37 (by kernel_rfl) rfl

theorem en_38 : ∀ args w, (callFunc 38 args).run Tryz.prog w = .ok (.enter 38 args) w := enters_of Tryz.func38 (by kernel_rfl) rfl

theorem en_42 : ∀ args w, (callFunc 42 args).run Tryz.prog w = .ok (.enter 42 args) w := enters_of Tryz.func42 (by kernel_rfl) rfl

theorem en_43 : ∀ args w, (callFunc 43 args).run Tryz.prog w = .ok (.enter 43 args) w := enters_of Tryz.func43 (by kernel_rfl) rfl

theorem en_46 : ∀ args w, (callFunc 46 args).run Tryz.prog w = .ok (.enter 46 args) w := enters_of Tryz.func46 (by kernel_rfl) rfl

theorem en_47 : ∀ args w, (callFunc 47 args).run Tryz.prog w = .ok (.enter 47 args) w := enters_of Tryz.func47 (by kernel_rfl) rfl

theorem en_48 : ∀ args w, (callFunc 48 args).run Tryz.prog w = .ok (.enter 48 args) w := enters_of Tryz.func48 (by kernel_rfl) rfl

theorem en_50 : ∀ args w, (callFunc 50 args).run Tryz.prog w = .ok (.enter 50 args) w := enters_of Tryz.func50 (by kernel_rfl) rfl

theorem en_51 : ∀ args w, (callFunc 51 args).run Tryz.prog w = .ok (.enter 51 args) w := enters_of Tryz.func51 (by kernel_rfl) rfl

theorem en_59 : ∀ args w, (callFunc 59 args).run Tryz.prog w = .ok (.enter 59 args) w := enters_of Tryz.func59 (by kernel_rfl) rfl

theorem en_60 : ∀ args w, (callFunc 60 args).run Tryz.prog w = .ok (.enter 60 args) w := enters_of Tryz.func60 (by kernel_rfl) rfl

theorem en_65 : ∀ args w, (callFunc 65 args).run Tryz.prog w = .ok (.enter 65 args) w := enters_of Tryz.func65 (by kernel_rfl) rfl

theorem hmix : Tryz.prog.follows .mixedOrders = true := by kernel_rfl

/-- The library's table that the decimal forms are made with. -/
def Glob (w : World) : Prop := Lib.TabIs Tryz.prog w "internal/strconv.uint64pow10" .u64 Lib.pow10Tab

theorem globNum : Tryz.prog.globalNamed "internal/strconv.uint64pow10" = some 5 := by kernel_rfl

theorem Held.glob {w0 w : World} {rs : List Res} (h : Held Nob w0 rs w) (hG : Glob w0) : Glob w := tab_below globNum hG h.below

theorem grow_below (w : World) (k : Nat) (os : Array Obj) : Below w.heap.size w (Go.Sort.grow (w.drewN k) os) :=
  ⟨rfl, rfl, rfl, by show w.heap.size ≤ (w.heap ++ os).size; rw [Array.size_append]; omega, fun b hb => Go.Sort.heap_grow_old (w.drewN k) os hb⟩

def shelf_M173_ren : Go.Shelf.Ren := ⟨fun | 173 => 65 | 246 => 77 | 283 => 88 | 284 => 89 | 285 => 90 | 286 => 91 | 129 => 94 | 317 => 93 | 318 => 95 | 319 => 96 | 320 => 97 | 337 => 98 | 338 => 99 | n => n, fun | 2 => 2 | 3 => 3 | 9 => 9 | 4 => 4 | 171 => 121 | 0 => 0 | 53 => 98 | 37 => 79 | 5 => 5 | 173 => 124 | 212 => 130 | 51 => 112 | 20 => 20 | 213 => 131 | 46 => 92 | 232 => 134 | 233 => 135 | n => n, fun | 17 => 5 | 18 => 6 | 19 => 7 | n => n⟩

theorem shelf_M173 : Go.Proofs.LaysM.n173 Tryz.prog shelf_M173_ren := {
  mixed := by kernel_rfl
  f129 := Tryz.func94.trans (congrArg some (by kernel_rfl))
  f173 := Tryz.func65.trans (congrArg some (by kernel_rfl))
  f246 := Tryz.func77.trans (congrArg some (by kernel_rfl))
  f283 := Tryz.func88.trans (congrArg some (by kernel_rfl))
  f284 := Tryz.func89.trans (congrArg some (by kernel_rfl))
  f285 := Tryz.func90.trans (congrArg some (by kernel_rfl))
  f286 := Tryz.func91.trans (congrArg some (by kernel_rfl))
  f317 := Tryz.func93.trans (congrArg some (by kernel_rfl))
  f318 := Tryz.func95.trans (congrArg some (by kernel_rfl))
  f319 := Tryz.func96.trans (congrArg some (by kernel_rfl))
  f320 := Tryz.func97.trans (congrArg some (by kernel_rfl))
  f337 := Tryz.func98.trans (congrArg some (by kernel_rfl))
  f338 := Tryz.func99.trans (congrArg some (by kernel_rfl))
  t0 := Tryz.underlying0
  a0 := Tryz.isAgg0
  z0 := Tryz.sizeOf0
  v0 := Tryz.zeroValue0
  t2 := Tryz.underlying2
  a2 := Tryz.isAgg2
  z2 := Tryz.sizeOf2
  v2 := Tryz.zeroValue2
  t3 := Tryz.underlying3
  a3 := Tryz.isAgg3
  z3 := Tryz.sizeOf3
  v3 := Tryz.zeroValue3
  t4 := Tryz.underlying4
  a4 := Tryz.isAgg4
  z4 := Tryz.sizeOf4
  v4 := Tryz.zeroValue4
  t5 := Tryz.underlying5
  a5 := Tryz.isAgg5
  z5 := Tryz.sizeOf5
  v5 := Tryz.zeroValue5
  t9 := Tryz.underlying9
  a9 := Tryz.isAgg9
  z9 := Tryz.sizeOf9
  v9 := Tryz.zeroValue9
  t20 := Tryz.underlying20
  a20 := Tryz.isAgg20
  z20 := Tryz.sizeOf20
  v20 := Tryz.zeroValue20
  t37 := Tryz.underlying79
  a37 := Tryz.isAgg79
  z37 := Tryz.sizeOf79
  v37 := Tryz.zeroValue79
  t46 := Tryz.underlying92
  a46 := Tryz.isAgg92
  z46 := Tryz.sizeOf92
  v46 := Tryz.zeroValue92
  t51 := Tryz.underlying112
  a51 := Tryz.isAgg112
  z51 := Tryz.sizeOf112
  v51 := Tryz.zeroValue112
  t53 := Tryz.underlying98
  a53 := Tryz.isAgg98
  z53 := Tryz.sizeOf98
  v53 := Tryz.zeroValue98
  t171 := Tryz.underlying121
  a171 := Tryz.isAgg121
  z171 := Tryz.sizeOf121
  v171 := Tryz.zeroValue121
  t173 := Tryz.underlying124
  a173 := Tryz.isAgg124
  z173 := Tryz.sizeOf124
  v173 := Tryz.zeroValue124
  t212 := Tryz.underlying130
  a212 := Tryz.isAgg130
  z212 := Tryz.sizeOf130
  v212 := Tryz.zeroValue130
  t213 := Tryz.underlying131
  a213 := Tryz.isAgg131
  z213 := Tryz.sizeOf131
  t232 := Tryz.underlying134
  a232 := Tryz.isAgg134
  z232 := Tryz.sizeOf134
  v232 := Tryz.zeroValue134
  t233 := Tryz.underlying135
  a233 := Tryz.isAgg135
  z233 := Tryz.sizeOf135
  v233 := Tryz.zeroValue135
  g17 := by kernel_rfl
  g18 := by kernel_rfl
  g19 := by kernel_rfl
  i0 := by kernel_rfl
  i2 := by kernel_rfl
  i3 := by kernel_rfl
  i4 := by kernel_rfl
  i5 := by kernel_rfl
  i9 := by kernel_rfl
  i20 := by kernel_rfl
  i37 := by kernel_rfl
  i46 := by kernel_rfl
  i51 := by kernel_rfl
  i53 := by kernel_rfl
  i171 := by kernel_rfl
  i173 := by kernel_rfl
  i212 := by kernel_rfl
  i232 := by kernel_rfl
  i233 := by kernel_rfl
  m17 := by kernel_rfl
  m18 := by kernel_rfl
  m19 := by kernel_rfl }

def shelf_156_ren : Go.Shelf.Ren := ⟨fun | 156 => 32 | 165 => 52 | 166 => 53 | 169 => 54 | 240 => 67 | 241 => 68 | 276 => 79 | 277 => 80 | n => n, fun | 31 => 30 | 9 => 9 | 3 => 3 | 4 => 4 | 0 => 0 | 20 => 20 | 72 => 81 | 76 => 83 | 70 => 78 | 37 => 79 | 75 => 71 | 127 => 96 | 164 => 105 | 5 => 5 | 80 => 85 | n => n, fun | n => n⟩

theorem shelf_156 : Go.Proofs.Lays.n156 Tryz.prog shelf_156_ren := {
  mixed := by kernel_rfl
  f156 := Tryz.func32.trans (congrArg some (by kernel_rfl))
  f165 := Tryz.func52.trans (congrArg some (by kernel_rfl))
  f166 := Tryz.func53.trans (congrArg some (by kernel_rfl))
  f169 := Tryz.func54.trans (congrArg some (by kernel_rfl))
  f240 := Tryz.func67.trans (congrArg some (by kernel_rfl))
  f241 := Tryz.func68.trans (congrArg some (by kernel_rfl))
  f276 := Tryz.func79.trans (congrArg some (by kernel_rfl))
  f277 := Tryz.func80.trans (congrArg some (by kernel_rfl))
  t0 := Tryz.underlying0
  a0 := Tryz.isAgg0
  z0 := Tryz.sizeOf0
  v0 := Tryz.zeroValue0
  t3 := Tryz.underlying3
  a3 := Tryz.isAgg3
  z3 := Tryz.sizeOf3
  v3 := Tryz.zeroValue3
  t4 := Tryz.underlying4
  a4 := Tryz.isAgg4
  z4 := Tryz.sizeOf4
  v4 := Tryz.zeroValue4
  t9 := Tryz.underlying9
  a9 := Tryz.isAgg9
  z9 := Tryz.sizeOf9
  v9 := Tryz.zeroValue9
  t20 := Tryz.underlying20
  a20 := Tryz.isAgg20
  z20 := Tryz.sizeOf20
  v20 := Tryz.zeroValue20
  t31 := Tryz.underlying30
  a31 := Tryz.isAgg30
  z31 := Tryz.sizeOf30
  v31 := Tryz.zeroValue30
  t37 := Tryz.underlying79
  a37 := Tryz.isAgg79
  z37 := Tryz.sizeOf79
  v37 := Tryz.zeroValue79
  t70 := Tryz.underlying78
  a70 := Tryz.isAgg78
  z70 := Tryz.sizeOf78
  v70 := Tryz.zeroValue78
  t72 := Tryz.underlying81
  a72 := Tryz.isAgg81
  z72 := Tryz.sizeOf81
  v72 := Tryz.zeroValue81
  t75 := Tryz.underlying71
  a75 := Tryz.isAgg71
  z75 := Tryz.sizeOf71
  v75 := Tryz.zeroValue71
  t76 := Tryz.underlying83
  a76 := Tryz.isAgg83
  z76 := Tryz.sizeOf83
  v76 := Tryz.zeroValue83
  t127 := Tryz.underlying96
  a127 := Tryz.isAgg96
  z127 := Tryz.sizeOf96
  v127 := Tryz.zeroValue96
  t164 := Tryz.underlying105
  a164 := Tryz.isAgg105
  z164 := Tryz.sizeOf105
  v164 := Tryz.zeroValue105 }

theorem shelf_X_Builder_Extra_156 : Builder.Extra Tryz.prog shelf_156_ren where
  sizeBuilder := by kernel_rfl
  liesBuilder := by kernel_rfl
  t5 := Tryz.underlying5
  a5 := Tryz.isAgg5
  z5 := Tryz.sizeOf5
  v5 := Tryz.zeroValue5
  infoByte := by kernel_rfl
  cellsByte := by kernel_rfl
  sizeByte := by kernel_rfl
  neB5 := by decide

theorem FormatInt_10 (a0 a1 : Int) (w : World) (hG : Glob w) (s0 : -9223372036854775808 ≤ a0 ∧ a0 ≤ 9223372036854775807) (s1 : a1 = 10) :
    Calls Tryz.prog 65 #[.int .i64 a0, .int .i64 a1] w fun e w' => e = .returned (.string (bs (Go.Lib.itoa a0))) ∧ Below w.heap.size w w' := by
  subst s1
  refine (show Calls Tryz.prog 65 #[.int .i64 a0, .int .i64 10] w _ from Any.strconv_FormatInt_10 shelf_M173 a0 s0.1 s0.2 w hG).mono ?_
  rintro e w' ⟨rfl, k, os, rfl⟩
  exact ⟨rfl, grow_below _ _ _⟩

theorem map_bs (xs : List (List UInt8)) : (xs.map bs).map (fun x : ByteArray => x.data.toList) = xs := by
  rw [List.map_map]
  exact (List.map_congr_left fun x _ => by simp [bs]).trans (List.map_id xs)

theorem Join_Str (A : Option Addr) (c : Nat) (a0 : List (List UInt8)) (a1 : List UInt8) (w : World) (h0 : Sl eTxt w (Old w) A c a0) (s0 : a0.length ≤ 1000000000) (s1 : (Go.Lib.join a0 a1).length ≤ 1000000000) :
    Calls Tryz.prog 32 #[.slice A a0.length c, .string (bs a1)] w fun e w' => e = .returned (.string (bs (Go.Lib.join a0 a1))) ∧ Below w.heap.size w w' := by
  by_cases hx : a0 = []
  · subst hx
    refine (show Calls Tryz.prog 32 #[.slice A 0 c, .string (bs a1)] w _ from Any.strings_Join_none shelf_156 shelf_X_Builder_Extra_156 A c (bs a1) w).mono ?_
    rintro e w' ⟨rfl, rfl⟩
    exact ⟨rfl, Below.refl _ _⟩
  · obtain ⟨b, off, rfl, hb, hc⟩ := h0.2.2 hx
    have hl : a0.length = (a0.map bs).length := (List.length_map _).symm
    have hj : Go.Lib.join ((a0.map bs).map (·.data.toList)) (bs a1).data.toList = Go.Lib.join a0 a1 := by rw [map_bs]
    rw [hl]
    refine (show Calls Tryz.prog 32 #[.slice (some ⟨b, off, none⟩) (a0.map bs).length c, .string (bs a1)] w _ from Any.strings_Join shelf_156 shelf_X_Builder_Extra_156 b off c (a0.map bs) (bs a1) w ?_ hb (by rw [← hl]; omega) (by rw [← hl]; exact h0.1) (by rw [hj]; omega)).mono ?_
    · intro j x hjx
      rw [List.getElem?_map, Option.map_eq_some_iff] at hjx
      obtain ⟨y, hy, rfl⟩ := hjx
      obtain ⟨es, ⟨rfl, _⟩, h2⟩ := hc j y hy
      have := h2 0 _ rfl
      rwa [show off + j * eTxt.size + 0 = off + j from by simp [eTxt]] at this
    · rintro e w' ⟨rfl, h2⟩
      rw [hj]
      exact ⟨rfl, h2⟩

theorem nDigits_le (k : Nat) : ∀ n : Nat, n < 10 ^ (k + 1) → Go.Lib.nDigits n ≤ k + 1 := by
  induction k with
  | zero => intro n h; rw [Go.Lib.nDigits_small (by simpa using h)]; omega
  | succ k ih =>
    intro n h
    by_cases h1 : n < 10
    · rw [Go.Lib.nDigits_small h1]; omega
    · rw [Go.Lib.nDigits_big h1]; have := ih (n / 10) (by rw [Nat.pow_succ] at h; omega); omega

theorem itoa_len {n : Int} (h : -9223372036854775808 ≤ n ∧ n ≤ 9223372036854775807) : 1 ≤ (Go.Lib.itoa n).length ∧ (Go.Lib.itoa n).length ≤ 20 := by
  unfold Go.Lib.itoa
  split
  · have h1 := nDigits_le 18 n.natAbs (by omega)
    have h2 := Go.Lib.nDigits_pos n.natAbs
    rw [List.length_cons, Go.Lib.decDigits_length]; omega
  · have h1 := nDigits_le 18 n.toNat (by omega)
    have h2 := Go.Lib.nDigits_pos n.toNat
    rw [Go.Lib.decDigits_length]; omega

theorem join_len (B : Nat) (sep : List UInt8) : ∀ xs : List (List UInt8), (∀ x ∈ xs, x.length ≤ B) → (Go.Lib.join xs sep).length ≤ xs.length * (B + sep.length)
  | [], _ => by simp [Go.Lib.join_nil]
  | x :: r, h => by
    have h1 := h x (by simp)
    have h2 : Go.Lib.lens r ≤ r.length * B := by
      have h3 : ∀ y ∈ r, y.length ≤ B := fun y hy => h y (by simp [hy])
      clear h
      induction r with
      | nil => simp [Go.Lib.lens]
      | cons y r ih =>
        have h4 := ih fun z hz => h3 z (by simp [hz])
        have h5 := h3 y (by simp)
        simp only [Go.Lib.lens, List.map_cons, List.sum_cons, List.length_cons, Nat.succ_mul] at h4 ⊢
        omega
    rw [Go.Lib.join_length, List.length_cons, Nat.succ_mul]
    simp only [Go.Lib.lens, List.map_cons, List.sum_cons] at h2 ⊢
    have h6 : sep.length * r.length = r.length * sep.length := Nat.mul_comm _ _
    have h7 : r.length * (B + sep.length) = r.length * B + r.length * sep.length := Nat.mul_add _ _ _
    omega

theorem Sl.i64 {w : World} {S : Nat → Prop} {A : Option Addr} {c : Nat} {xs : List Int} (h : Sl eInt w S A c xs) : ∀ x ∈ xs, -9223372036854775808 ≤ x ∧ x ≤ 9223372036854775807 := by
  intro x hx
  obtain ⟨i, hi⟩ := List.mem_iff_getElem?.1 hx
  obtain ⟨b, off, _, _, hc⟩ := h.2.2 (fun e => by rw [e] at hx; cases hx)
  obtain ⟨es, ⟨_, h1⟩, _⟩ := hc i x hi
  exact h1

theorem join_take_len {α : Type} {f : α → List UInt8} {l : List α} {sep : List UInt8} {B : Nat} (h : ∀ x ∈ l, (f x).length + sep.length ≤ B) (k : Nat) : (Go.Lib.join ((l.take k).map f) sep).length ≤ B * l.length := by
  by_cases hn : l = []
  · subst hn; simp [Go.Lib.join_nil]
  · obtain ⟨x0, hx0⟩ := List.exists_mem_of_ne_nil l hn
    have hs := h x0 hx0
    have h1 := join_len (B - sep.length) sep ((l.take k).map f) (by
      intro y hy
      obtain ⟨x, hx, rfl⟩ := List.mem_map.1 hy
      have := h x (List.mem_of_mem_take hx)
      omega)
    rw [List.length_map, List.length_take, show B - sep.length + sep.length = B from by omega] at h1
    have h2 : min k l.length * B ≤ l.length * B := Nat.mul_le_mul_right _ (by omega)
    rw [Nat.mul_comm B]
    omega

set_option maxRecDepth 100000 in
set_option maxHeartbeats 4000000 in
theorem impl_Decimal (a0 : Int) (w : World) (hG : Glob w) (s0 : -9223372036854775808 ≤ a0 ∧ a0 ≤ 9223372036854775807) :
    Calls Tryz.prog 47 #[.int .i64 a0] w fun e w' => e = .returned (.string (bs (Go.Lib.itoa a0))) ∧ Below w.heap.size w w' := by
  have HH1 := Held.start Nob w
  refine enter (n := 5) Tryz.func47 rfl rfl rfl fun a_2 HE3 => ?_
  refine wp_seq ?_
  refine rg ?_
  refine pl_x HE3 HH1 (wt0 rfl) (x_assign rfl) rfl rfl fun a_4 HE5 => ?_
  refine wpList_nil ?_
  clear a_2 HE3
  refine nrm ?_
  refine wp_seq ?_
  refine rg ?_
  refine pl_x HE5 HH1 (wt0 rfl) (x_move rfl) rfl rfl fun a_6 HE7 => ?_
  refine pl fun K_8 hK9 => ?_
  refine st_call HE7 (wt0 rfl) rfl rfl rfl en_65 rfl rfl (FormatInt_10 a0 10 _ (HH1.glob hG) (by omega) (by rfl)) fun e w' hr => ?_
  have hAr21_0 := itoa_len (n := a0) (by omega)
  obtain ⟨rfl, hbr21⟩ := hr
  have HH10 := HH1.on hbr21
  refine ⟨_, rfl, fun a_11 HE12 => hK9 _ _ ?_⟩
  refine pl_x HE12 HH10 (wt0 rfl) (x_assign rfl) rfl rfl fun a_13 HE14 => ?_
  refine wpList_nil ?_
  clear a_4 HE5 HH1 a_6 HE7 a_11 HE12 hK9 K_8
  refine nrm ?_
  refine wp_ret ?_
  refine ret1 HE14 rfl (rv_tmp rfl) ?_
  have hF : (Go.Lib.itoa a0) = (Go.Lib.itoa a0) := by
    first | rfl | (simp [Go.Lib.itoa]; done) | (simp [Go.Lib.itoa]; omega) | grind [Go.Lib.itoa]
  exact ⟨by first | (rw [hF] <;> rfl) | rfl | (rw [hF]; simp only [Ending.returned.injEq, Value.slice.injEq, true_and, and_true]; first | omega | (simp; done)) | (rw [hF]; simp; omega), HH10.below⟩

theorem eqg_Rule : Tryz.prog.eqGuardType Tryz.prog.depth 34 = false := by kernel_rfl

theorem eqr_Rule (w : World) (a b c a' b' c' : Int) : (Op.equalIn 10000 34 (.agg #[.int .i64 a, .int .i64 b, .int .i64 c]) (.agg #[.int .i64 a', .int .i64 b', .int .i64 c'])).run Tryz.prog w = .ok ((a == a') && ((b == b') && (c == c'))) w := by
  have hS : Tryz.prog.underlying 34 = some (.struct (Tryz.prog.fieldsOf 34)) := by kernel_rfl
  have hp : Tryz.prog.stoodInHeld 34 = false := by kernel_rfl
  have h2 : Tryz.prog.underlying 2 = some (.int .i64) := Tryz.underlying2
  rw [run_equalIn_struct w 9999 34 _ _ hS hp]
  simp only [Program.fieldsOf, Tryz.underlying34]
  simp [Op.eqFields, part, Sem.run_bind, run_equalIn_int, h2]
  by_cases h1 : a = a' <;> by_cases h3 : b = b' <;> by_cases h4 : c = c' <;> simp [h1, h3, h4]

def noRl : tRule := (0, 0, -1)

def isRl (r : tRule) : Bool := !((r.1 == noRl.1) && ((r.2.1 == noRl.2.1) && (r.2.2 == noRl.2.2)))

def ruleB (m1 m2 : Int) (r : tRule) : Bool := if isRl r = true then withinB r.1 0 (m1 - 1) && ((r.2.1 == -1) || (r.2.1 == 1)) && withinB r.2.2 0 (m2 - 1) else true

def validMach (m : tMachine) : Bool := withinB m.1 2 6 && withinB m.2.1 1 1000 && ((m.2.2.length : Int) == m.2.1 * m.1) && !m.2.2.any (fun r => !ruleB m.1 m.2.1 r)

theorem mul_bd2 {a b : Int} (h1 : 2 ≤ a ∧ a ≤ 6) (h2 : 1 ≤ b ∧ b ≤ 1000) : (0 ≤ b * a ∧ b * a ≤ 6000) ∧ a * b = b * a := by
  refine ⟨⟨Int.mul_nonneg (by omega) (by omega), ?_⟩, Int.mul_comm _ _⟩
  have := Int.mul_le_mul h2.2 h1.2 (by omega) (by omega)
  omega

theorem validMach_facts {m : tMachine} (h : validMach m = true) : (2 ≤ m.1 ∧ m.1 ≤ 6) ∧ (1 ≤ m.2.1 ∧ m.2.1 ≤ 1000) ∧ (m.2.2.length : Int) = m.2.1 * m.1 ∧ m.2.2.length ≤ 6000 := by
  unfold validMach at h
  simp only [Bool.and_eq_true, beq_iff_eq] at h
  have h1 := withinB_true.1 h.1.1.1
  have h2 := withinB_true.1 h.1.1.2
  have h3 := mul_bd2 h1 h2
  exact ⟨h1, h2, h.1.2, by have := h.1.2; omega⟩

set_option maxRecDepth 100000 in
set_option maxHeartbeats 4000000 in
theorem impl_noRule  (w : World)  :
    Calls Tryz.prog 23 #[] w fun e w' => ∃ (es0' : List Value), e = .returned (.agg es0'.toArray) ∧ eRule.O w' (Fr w w') es0' noRl ∧ Below w.heap.size w w' := by
  have HH1 := Held.start Nob w
  refine enter (n := 2) Tryz.func23 rfl rfl rfl fun a_2 HE3 => ?_
  refine wp_seq ?_
  refine rg ?_
  refine pl fun K_4 hK5 => ?_
  refine st_alloc HE3 HH1 tv_34 (wt0 rfl) rfl fun q21 a_6 w' HE7 HH8 => hK5 _ _ ?_
  refine wpList_nil ?_
  clear a_2 HE3 HH1 hK5 K_4
  refine nrm ?_
  refine wp_seq ?_
  refine rg ?_
  refine pl_x HE7 HH8 (wt0 rfl) (show XS _ _ _ _ (.agg #[.int .i64 (0), .int .i64 (0), .int .i64 (-1)]) from x_build (vs := [(2, .int .i64 (-1))]) tb_34 rfl (by simp [Value.oneCell'])) rfl rfl fun a_9 HE10 => ?_
  refine pl fun K_11 hK12 => ?_
  refine st_store (vs := [.int .i64 (0), .int .i64 (0), .int .i64 (-1)]) 0 HE10 HH8 tv_34 rfl rfl rfl rfl rfl rfl (by simp [Value.oneCell']) (wt0 rfl) fun w' HH13 => hK12 _ _ ?_
  refine wpList_nil ?_
  clear a_6 HE7 HH8 hK12 K_11
  refine nrm ?_
  refine wp_ret ?_
  refine ret1 HE10 rfl (rv_cell rfl (tv_34.loadN (cs := [.int .i64 (0), .int .i64 (0), .int .i64 (-1)]) rfl (c_blkN 0 rfl _ HH13))) ?_
  have HH14 := HH13.flatO (E := eRule) (cs := [.int .i64 (0), .int .i64 (0), .int .i64 (-1)]) (x := (0, 0, -1)) (fun _ => (oPrN (oI (by exact ⟨by omega, by omega⟩)) (oPrN (oI (by exact ⟨by omega, by omega⟩)) (oI (by exact ⟨by omega, by omega⟩)))))
  have hF : noRl = (0, 0, -1) := by
    rfl
  exact ⟨_, rfl, by rw [hF]; exact (HH14.o (i := 0) rfl), HH14.below⟩

set_option maxRecDepth 100000 in
set_option maxHeartbeats 4000000 in
theorem impl_isRule (es0 : List Value) (a0 : tRule) (w : World) (h0 : eRule.R w (Old w) es0 a0) :
    Calls Tryz.prog 50 #[.agg es0.toArray] w fun e w' => e = .returned (.bool (isRl a0)) ∧ Below w.heap.size w w' := by
  have H0 := h0
  obtain ⟨rfl, gz0_0, gz0_1, gz0_2⟩ := shape_Rule h0
  have jz0_0 := gz0_0; unfold I64 at jz0_0
  have jz0_1 := gz0_1; unfold I64 at jz0_1
  have jz0_2 := gz0_2; unfold I64 at jz0_2
  have HH1 := Held.start Nob w
  refine enter (n := 6) Tryz.func50 rfl rfl rfl fun a_2 HE3 => ?_
  refine wp_seq ?_
  refine rg ?_
  refine pl fun K_4 hK5 => ?_
  refine st_box (cs := [.int .i64 (a0.1), .int .i64 (a0.2.1), .int .i64 (a0.2.2)]) HE3 HH1 rfl rfl (wt0 rfl) rfl fun q21 a_6 w' HE7 HH8 => hK5 _ _ ?_
  refine pl_x HE7 HH8 (wt0 rfl) (x_assign rfl) rfl rfl fun a_9 HE10 => ?_
  refine wpList_nil ?_
  clear a_2 HE3 HH1 a_6 HE7 hK5 K_4
  refine nrm ?_
  refine wp_seq ?_
  refine dr_start (Held Nob w [rBlk q21 34 [.int .i64 (a0.1), .int .i64 (a0.2.1), .int .i64 (a0.2.2)]]) 4 #[false, false, false, false] hmix rfl rfl HH8 (fun _ h => h.sel [0] (by decide) rfl) fun w' HH11 => ?_
  have HS12 := HH11
  refine dr_take (i := 0) (ls' := #[true, false, false, false]) HE10 HS12 rfl (by kernel_rfl) (by kernel_rfl) (by kernel_rfl) (fun _ _ _ h => h) rfl (wt0 rfl) (x_loadN (cs := [.int .i64 (a0.1), .int .i64 (a0.2.1), .int .i64 (a0.2.2)]) tv_34 rfl rfl (c_blkN 0 rfl)) rfl rfl fun a_13 HE14 => ?_
  refine dr_one (i := 1) (ls' := #[true, true, false, false]) rfl (by kernel_rfl) rfl fun K_15 hK16 => ?_
  refine st_call HE14 (wt0 rfl) rfl rfl rfl en_23 rfl rfl (impl_noRule  _ ) fun e w' hr => ?_
  obtain ⟨esr22_0, rfl, hor22_0, hbr22⟩ := hr
  have hr := eRule.read hor22_0
  obtain ⟨Sr22, HH17⟩ := HH11.newO hbr22 hor22_0
  obtain ⟨rfl, gr22_0_0, gr22_0_1, gr22_0_2⟩ := shape_Rule hr
  have jr22_0_0 := gr22_0_0; unfold I64 at jr22_0_0
  have jr22_0_1 := gr22_0_1; unfold I64 at jr22_0_1
  have jr22_0_2 := gr22_0_2; unfold I64 at jr22_0_2
  have HH18 := HH17.sel [1] (by decide) rfl
  refine ⟨_, rfl, fun a_19 HE20 => hK16 _ _ (by exact HH18.sel [0] (by decide) rfl) ?_⟩
  have HS21 := HH18.sel [0] (by decide) rfl
  refine dr_take (i := 2) (ls' := #[true, true, true, false]) HE20 HS21 rfl (by kernel_rfl) (by kernel_rfl) (by kernel_rfl) (fun _ _ _ h => h) rfl (wt0 rfl) (x_aneq eqg_Rule (fun w => eqr_Rule w _ _ _ _ _ _) rfl rfl) rfl rfl fun a_22 HE23 => ?_
  refine dr_take (i := 3) (ls' := #[true, true, true, true]) HE23 HS21 rfl (by kernel_rfl) (by kernel_rfl) (by kernel_rfl) (fun _ _ _ h => h) rfl (wt0 rfl) (x_assign rfl) rfl rfl fun a_24 HE25 => ?_
  refine dr_done (by kernel_rfl) ?_
  clear HH8 a_9 HE10 HH11 HH17 a_13 HE14 HS12 a_19 HE20 a_22 HE23 hK16 K_15
  refine nrm ?_
  refine wp_ret ?_
  refine ret1 HE25 rfl (rv_tmp rfl) ?_
  have hF : (isRl a0) = !(a0.1 == noRl.1 && (a0.2.1 == noRl.2.1 && (a0.2.2 == noRl.2.2))) := by
    rfl
  exact ⟨by first | (rw [hF] <;> rfl) | rfl | (rw [hF]; simp only [Ending.returned.injEq, Value.slice.injEq, true_and, and_true]; first | omega | (simp; done)) | (rw [hF]; simp; omega), HH18.below⟩

set_option maxRecDepth 100000 in
set_option maxHeartbeats 4000000 in
theorem impl_validRule (es0 : List Value) (a0 : tMachine) (es1 : List Value) (a1 : tRule) (w : World) (h0 : eMachine.R w (Old w) es0 a0) (h1 : eRule.R w (Old w) es1 a1) (s0 : 2 ≤ a0.1 ∧ a0.1 ≤ 6) (s1 : 1 ≤ a0.2.1 ∧ a0.2.1 ≤ 1000) :
    Calls Tryz.prog 29 #[.agg es0.toArray, .agg es1.toArray] w fun e w' => e = .returned (.bool ((fun m r => ruleB m.1 m.2.1 r) a0 a1)) ∧ Below w.heap.size w w' := by
  have H0 := h0
  obtain ⟨Az0_2, cz0_2, rfl, gz0_0, gz0_1, gz0_2⟩ := shape_Machine h0
  have jz0_0 := gz0_0; unfold I64 at jz0_0
  have jz0_1 := gz0_1; unfold I64 at jz0_1
  have lz0_2 := gz0_2.len
  have H1 := h1
  obtain ⟨rfl, gz1_0, gz1_1, gz1_2⟩ := shape_Rule h1
  have jz1_0 := gz1_0; unfold I64 at jz1_0
  have jz1_1 := gz1_1; unfold I64 at jz1_1
  have jz1_2 := gz1_2; unfold I64 at jz1_2
  have HH1 := Held.start Nob w
  refine enter (n := 32) Tryz.func29 rfl rfl rfl fun a_2 HE3 => ?_
  refine wp_seq ?_
  refine rg ?_
  refine pl fun K_4 hK5 => ?_
  refine st_box (cs := [.int .i64 (a0.1), .int .i64 (a0.2.1), .slice Az0_2 (a0.2.2.length) cz0_2]) HE3 HH1 rfl rfl (wt0 rfl) rfl fun q21 a_6 w' HE7 HH8 => hK5 _ _ ?_
  refine pl fun K_9 hK10 => ?_
  refine st_box (cs := [.int .i64 (a1.1), .int .i64 (a1.2.1), .int .i64 (a1.2.2)]) HE7 HH8 rfl rfl (wt0 rfl) rfl fun q22 a_11 w' HE12 HH13 => hK10 _ _ ?_
  refine pl_x HE12 HH13 (wt0 rfl) (x_assign rfl) rfl rfl fun a_14 HE15 => ?_
  refine wpList_nil ?_
  clear a_2 HE3 HH1 K_4 hK5 a_6 HE7 HH8 a_11 HE12 hK10 K_9
  refine nrm ?_
  refine wp_seq ?_
  refine wp_seq ?_
  refine rg ?_
  refine pl_x HE15 HH13 (wt0 rfl) (x_loadN (cs := [.int .i64 (a1.1), .int .i64 (a1.2.1), .int .i64 (a1.2.2)]) tv_34 rfl rfl (c_blkN 0 rfl)) rfl rfl fun a_16 HE17 => ?_
  refine pl fun K_18 hK19 => ?_
  refine st_call HE17 (wt0 rfl) rfl rfl rfl en_50 rfl rfl (impl_isRule [.int .i64 (a1.1), .int .i64 (a1.2.1), .int .i64 (a1.2.2)] a1 _ (HH13.oldR H1)) fun e w' hr => ?_
  obtain ⟨rfl, hbr23⟩ := hr
  have HH20 := HH13.on hbr23
  refine ⟨_, rfl, fun a_21 HE22 => hK19 _ _ ?_⟩
  refine pl_x HE22 HH20 (wt0 rfl) (x_not rfl) rfl rfl fun a_23 HE24 => ?_
  refine wpList_nil ?_
  clear a_14 HE15 HH13 a_16 HE17 a_21 HE22 hK19 K_18
  refine nrm ?_
  refine cnd_nb HE24 rfl (fun hc24 => ?_) (fun hc24 => ?_)
  · refine wp_seq ?_
    refine rg ?_
    refine pl_x HE24 HH20 (wt0 rfl) (x_assign rfl) rfl rfl fun a_25 HE26 => ?_
    refine wpList_nil ?_
    clear a_23 HE24
    refine nrm ?_
    refine wp_ret ?_
    refine (thn_ret ?_)
    refine ret1 HE26 rfl (rv_tmp rfl) ?_
    have hF : ((fun m r => ruleB m.1 m.2.1 r) a0 a1) = true := by
      unfold ruleB; simp [hc24]
    exact ⟨by first | (rw [hF] <;> rfl) | rfl | (rw [hF]; simp only [Ending.returned.injEq, Value.slice.injEq, true_and, and_true]; first | omega | (simp; done)) | (rw [hF]; simp; omega), HH20.below⟩
  · refine wp_skip ?_
    refine nrm ?_
    refine wp_seq ?_
    refine rg ?_
    refine pl_x HE24 HH20 (wt0 rfl) (x_fieldAddr fa_34_0 rfl) rfl rfl fun a_27 HE28 => ?_
    refine pl_x HE28 HH20 (wt0 rfl) (x_load1 tv_2 rfl (c_blk 0 rfl rfl)) rfl rfl fun a_29 HE30 => ?_
    refine pl_x HE30 HH20 (wt0 rfl) (x_fieldAddr fa_24_0 rfl) rfl rfl fun a_31 HE32 => ?_
    refine pl_x HE32 HH20 (wt0 rfl) (x_load1 tv_2 rfl (c_blk 1 rfl rfl)) rfl rfl fun a_33 HE34 => ?_
    refine pl_x HE34 HH20 (wt0 rfl) (x_sub rfl rfl (by exact ⟨by omega, by omega⟩)) rfl rfl fun a_35 HE36 => ?_
    refine pl fun K_37 hK38 => ?_
    refine st_call HE36 (wt0 rfl) rfl rfl rfl en_25 rfl rfl (impl_within a1.1 0 (a0.1 - 1) _ ) fun e w' hr => ?_
    obtain ⟨rfl, rfl⟩ := hr
    refine ⟨_, rfl, fun a_39 HE40 => hK38 _ _ ?_⟩
    refine pl_x HE40 HH20 (wt0 rfl) (x_move rfl) rfl rfl fun a_41 HE42 => ?_
    rcases Bool.eq_false_or_eq_true ((withinB a1.1 0 (a0.1 - 1))) with hc26 | hc26
    · refine pl_x HE42 HH20 (wtT HE42 rfl rfl rfl hc26) (x_fieldAddr fa_34_1 rfl) rfl rfl fun a_43 HE44 => ?_
      refine pl_x HE44 HH20 (wtT HE44 rfl rfl rfl hc26) (x_load1 tv_2 rfl (c_blk 0 rfl rfl)) rfl rfl fun a_45 HE46 => ?_
      refine pl_x HE46 HH20 (wtT HE46 rfl rfl rfl hc26) (x_eql rfl rfl) rfl rfl fun a_47 HE48 => ?_
      refine pl_x HE48 HH20 (wtT HE48 rfl rfl rfl hc26) (x_move rfl) rfl rfl fun a_49 HE50 => ?_
      by_cases hc27 : a1.2.1 = -1
      · refine pl_no HE50 (wtF HE50 rfl rfl rfl (beq_t hc27)) rfl rfl fun a_51 HE52 => ?_
        refine pl_no HE52 (wtF HE52 rfl rfl rfl (beq_t hc27)) rfl rfl fun a_53 HE54 => ?_
        refine pl_no HE54 (wtF HE54 rfl rfl rfl (beq_t hc27)) rfl rfl fun a_55 HE56 => ?_
        refine pl_x HE56 HH20 (wtT HE56 rfl rfl rfl hc26) (x_pickT rfl (beq_t hc27) rfl) rfl rfl fun a_57 HE58 => ?_
        refine pl_x HE58 HH20 (wt0 rfl) (x_pickT rfl hc26 rfl) rfl rfl fun a_59 HE60 => ?_
        refine pl_x HE60 HH20 (wt0 rfl) (x_move rfl) rfl rfl fun a_61 HE62 => ?_
        refine pl_x HE62 HH20 (wtT HE62 rfl rfl rfl rfl) (x_fieldAddr fa_34_2 rfl) rfl rfl fun a_63 HE64 => ?_
        refine pl_x HE64 HH20 (wtT HE64 rfl rfl rfl rfl) (x_load1 tv_2 rfl (c_blk 0 rfl rfl)) rfl rfl fun a_65 HE66 => ?_
        refine pl_x HE66 HH20 (wtT HE66 rfl rfl rfl rfl) (x_fieldAddr fa_24_1 rfl) rfl rfl fun a_67 HE68 => ?_
        refine pl_x HE68 HH20 (wtT HE68 rfl rfl rfl rfl) (x_load1 tv_2 rfl (c_blk 1 rfl rfl)) rfl rfl fun a_69 HE70 => ?_
        refine pl_x HE70 HH20 (wtT HE70 rfl rfl rfl rfl) (x_sub rfl rfl (by exact ⟨by omega, by omega⟩)) rfl rfl fun a_71 HE72 => ?_
        refine pl fun K_73 hK74 => ?_
        refine st_call HE72 (wtT HE72 rfl rfl rfl rfl) rfl rfl rfl en_25 rfl rfl (impl_within a1.2.2 0 (a0.2.1 - 1) _ ) fun e w' hr => ?_
        obtain ⟨rfl, rfl⟩ := hr
        refine ⟨_, rfl, fun a_75 HE76 => hK74 _ _ ?_⟩
        refine pl_x HE76 HH20 (wt0 rfl) (x_pickT rfl rfl rfl) rfl rfl fun a_77 HE78 => ?_
        refine pl_x HE78 HH20 (wt0 rfl) (x_assign rfl) rfl rfl fun a_79 HE80 => ?_
        refine wpList_nil ?_
        clear a_23 HE24 a_27 HE28 a_29 HE30 a_31 HE32 a_33 HE34 a_35 HE36 a_39 HE40 a_41 HE42 a_43 HE44 a_45 HE46 a_47 HE48 a_49 HE50 a_51 HE52 a_53 HE54 a_55 HE56 a_57 HE58 a_59 HE60 a_61 HE62 a_63 HE64 a_65 HE66 a_67 HE68 a_69 HE70 K_37 hK38 a_71 HE72 a_75 HE76 a_77 HE78 hK74 K_73
        refine nrm ?_
        refine wp_ret ?_
        refine ret1 HE80 rfl (rv_tmp rfl) ?_
        have hF : ((fun m r => ruleB m.1 m.2.1 r) a0 a1) = (withinB a1.2.2 0 (a0.2.1 - 1)) := by
          unfold ruleB; simp [hc24, hc26, hc27]
        exact ⟨by first | (rw [hF] <;> rfl) | rfl | (rw [hF]; simp only [Ending.returned.injEq, Value.slice.injEq, true_and, and_true]; first | omega | (simp; done)) | (rw [hF]; simp; omega), HH20.below⟩
      · refine pl_x HE50 HH20 (wtT HE50 rfl rfl rfl (beq_f hc27)) (x_fieldAddr fa_34_1 rfl) rfl rfl fun a_81 HE82 => ?_
        refine pl_x HE82 HH20 (wtT HE82 rfl rfl rfl (beq_f hc27)) (x_load1 tv_2 rfl (c_blk 0 rfl rfl)) rfl rfl fun a_83 HE84 => ?_
        refine pl_x HE84 HH20 (wtT HE84 rfl rfl rfl (beq_f hc27)) (x_eql rfl rfl) rfl rfl fun a_85 HE86 => ?_
        refine pl_x HE86 HH20 (wtT HE86 rfl rfl rfl hc26) (x_pickF rfl (beq_f hc27) rfl) rfl rfl fun a_87 HE88 => ?_
        refine pl_x HE88 HH20 (wt0 rfl) (x_pickT rfl hc26 rfl) rfl rfl fun a_89 HE90 => ?_
        refine pl_x HE90 HH20 (wt0 rfl) (x_move rfl) rfl rfl fun a_91 HE92 => ?_
        by_cases hc29 : a1.2.1 = 1
        · refine pl_x HE92 HH20 (wtT HE92 rfl rfl rfl (beq_t hc29)) (x_fieldAddr fa_34_2 rfl) rfl rfl fun a_93 HE94 => ?_
          refine pl_x HE94 HH20 (wtT HE94 rfl rfl rfl (beq_t hc29)) (x_load1 tv_2 rfl (c_blk 0 rfl rfl)) rfl rfl fun a_95 HE96 => ?_
          refine pl_x HE96 HH20 (wtT HE96 rfl rfl rfl (beq_t hc29)) (x_fieldAddr fa_24_1 rfl) rfl rfl fun a_97 HE98 => ?_
          refine pl_x HE98 HH20 (wtT HE98 rfl rfl rfl (beq_t hc29)) (x_load1 tv_2 rfl (c_blk 1 rfl rfl)) rfl rfl fun a_99 HE100 => ?_
          refine pl_x HE100 HH20 (wtT HE100 rfl rfl rfl (beq_t hc29)) (x_sub rfl rfl (by exact ⟨by omega, by omega⟩)) rfl rfl fun a_101 HE102 => ?_
          refine pl fun K_103 hK104 => ?_
          refine st_call HE102 (wtT HE102 rfl rfl rfl (beq_t hc29)) rfl rfl rfl en_25 rfl rfl (impl_within a1.2.2 0 (a0.2.1 - 1) _ ) fun e w' hr => ?_
          obtain ⟨rfl, rfl⟩ := hr
          refine ⟨_, rfl, fun a_105 HE106 => hK104 _ _ ?_⟩
          refine pl_x HE106 HH20 (wt0 rfl) (x_pickT rfl (beq_t hc29) rfl) rfl rfl fun a_107 HE108 => ?_
          refine pl_x HE108 HH20 (wt0 rfl) (x_assign rfl) rfl rfl fun a_109 HE110 => ?_
          refine wpList_nil ?_
          clear a_23 HE24 a_27 HE28 a_29 HE30 a_31 HE32 a_33 HE34 a_35 HE36 a_39 HE40 a_41 HE42 a_43 HE44 a_45 HE46 a_47 HE48 a_49 HE50 a_81 HE82 a_83 HE84 a_85 HE86 a_87 HE88 a_89 HE90 a_91 HE92 a_93 HE94 a_95 HE96 a_97 HE98 a_99 HE100 K_37 hK38 a_101 HE102 a_105 HE106 a_107 HE108 hK104 K_103
          refine nrm ?_
          refine wp_ret ?_
          refine ret1 HE110 rfl (rv_tmp rfl) ?_
          have hF : ((fun m r => ruleB m.1 m.2.1 r) a0 a1) = (withinB a1.2.2 0 (a0.2.1 - 1)) := by
            unfold ruleB; simp [hc24, hc26, hc27, hc29]
          exact ⟨by first | (rw [hF] <;> rfl) | rfl | (rw [hF]; simp only [Ending.returned.injEq, Value.slice.injEq, true_and, and_true]; first | omega | (simp; done)) | (rw [hF]; simp; omega), HH20.below⟩
        · refine pl_no HE92 (wtF HE92 rfl rfl rfl (beq_f hc29)) rfl rfl fun a_111 HE112 => ?_
          refine pl_no HE112 (wtF HE112 rfl rfl rfl (beq_f hc29)) rfl rfl fun a_113 HE114 => ?_
          refine pl_no HE114 (wtF HE114 rfl rfl rfl (beq_f hc29)) rfl rfl fun a_115 HE116 => ?_
          refine pl_no HE116 (wtF HE116 rfl rfl rfl (beq_f hc29)) rfl rfl fun a_117 HE118 => ?_
          refine pl_no HE118 (wtF HE118 rfl rfl rfl (beq_f hc29)) rfl rfl fun a_119 HE120 => ?_
          refine pl_no HE120 (wtF HE120 rfl rfl rfl (beq_f hc29)) rfl rfl fun a_121 HE122 => ?_
          refine pl_x HE122 HH20 (wt0 rfl) (x_pickF rfl (beq_f hc29) rfl) rfl rfl fun a_123 HE124 => ?_
          refine pl_x HE124 HH20 (wt0 rfl) (x_assign rfl) rfl rfl fun a_125 HE126 => ?_
          refine wpList_nil ?_
          clear a_23 HE24 a_27 HE28 a_29 HE30 a_31 HE32 a_33 HE34 a_35 HE36 a_39 HE40 a_41 HE42 a_43 HE44 a_45 HE46 a_47 HE48 a_49 HE50 a_81 HE82 a_83 HE84 a_85 HE86 a_87 HE88 a_89 HE90 a_91 HE92 a_111 HE112 a_113 HE114 a_115 HE116 a_117 HE118 a_119 HE120 a_121 HE122 a_123 HE124 hK38 K_37
          refine nrm ?_
          refine wp_ret ?_
          refine ret1 HE126 rfl (rv_tmp rfl) ?_
          have hF : ((fun m r => ruleB m.1 m.2.1 r) a0 a1) = false := by
            unfold ruleB; simp [hc24, hc26, hc27, hc29]
          exact ⟨by first | (rw [hF] <;> rfl) | rfl | (rw [hF]; simp only [Ending.returned.injEq, Value.slice.injEq, true_and, and_true]; first | omega | (simp; done)) | (rw [hF]; simp; omega), HH20.below⟩
    · refine pl_no HE42 (wtF HE42 rfl rfl rfl hc26) rfl rfl fun a_127 HE128 => ?_
      refine pl_no HE128 (wtF HE128 rfl rfl rfl hc26) rfl rfl fun a_129 HE130 => ?_
      refine pl_no HE130 (wtF HE130 rfl rfl rfl hc26) rfl rfl fun a_131 HE132 => ?_
      refine pl_no HE132 (wtF HE132 rfl rfl rfl hc26) rfl rfl fun a_133 HE134 => ?_
      refine pl_no HE134 (wtU HE134 rfl rfl rfl) rfl rfl fun a_135 HE136 => ?_
      refine pl_no HE136 (wtU HE136 rfl rfl rfl) rfl rfl fun a_137 HE138 => ?_
      refine pl_no HE138 (wtU HE138 rfl rfl rfl) rfl rfl fun a_139 HE140 => ?_
      refine pl_no HE140 (wtF HE140 rfl rfl rfl hc26) rfl rfl fun a_141 HE142 => ?_
      refine pl_x HE142 HH20 (wt0 rfl) (x_pickF rfl hc26 rfl) rfl rfl fun a_143 HE144 => ?_
      refine pl_x HE144 HH20 (wt0 rfl) (x_move rfl) rfl rfl fun a_145 HE146 => ?_
      refine pl_no HE146 (wtF HE146 rfl rfl rfl rfl) rfl rfl fun a_147 HE148 => ?_
      refine pl_no HE148 (wtF HE148 rfl rfl rfl rfl) rfl rfl fun a_149 HE150 => ?_
      refine pl_no HE150 (wtF HE150 rfl rfl rfl rfl) rfl rfl fun a_151 HE152 => ?_
      refine pl_no HE152 (wtF HE152 rfl rfl rfl rfl) rfl rfl fun a_153 HE154 => ?_
      refine pl_no HE154 (wtF HE154 rfl rfl rfl rfl) rfl rfl fun a_155 HE156 => ?_
      refine pl_no HE156 (wtF HE156 rfl rfl rfl rfl) rfl rfl fun a_157 HE158 => ?_
      refine pl_x HE158 HH20 (wt0 rfl) (x_pickF rfl rfl rfl) rfl rfl fun a_159 HE160 => ?_
      refine pl_x HE160 HH20 (wt0 rfl) (x_assign rfl) rfl rfl fun a_161 HE162 => ?_
      refine wpList_nil ?_
      clear a_23 HE24 a_27 HE28 a_29 HE30 a_31 HE32 a_33 HE34 a_35 HE36 a_39 HE40 a_41 HE42 a_127 HE128 a_129 HE130 a_131 HE132 a_133 HE134 a_135 HE136 a_137 HE138 a_139 HE140 a_141 HE142 a_143 HE144 a_145 HE146 a_147 HE148 a_149 HE150 a_151 HE152 a_153 HE154 a_155 HE156 a_157 HE158 a_159 HE160 hK38 K_37
      refine nrm ?_
      refine wp_ret ?_
      refine ret1 HE162 rfl (rv_tmp rfl) ?_
      have hF : ((fun m r => ruleB m.1 m.2.1 r) a0 a1) = false := by
        unfold ruleB; simp [hc24, hc26]
      exact ⟨by first | (rw [hF] <;> rfl) | rfl | (rw [hF]; simp only [Ending.returned.injEq, Value.slice.injEq, true_and, and_true]; first | omega | (simp; done)) | (rw [hF]; simp; omega), HH20.below⟩

set_option maxRecDepth 100000 in
set_option maxHeartbeats 4000000 in
theorem impl_ValidMachine1 (es0 : List Value) (a0 : tRule) (p1 : Nat) (es1 : List Value) (a1 : tMachine) (w : World) (h0 : eRule.R w (Old w) es0 a0) (h1 : eMachine.R w (Old w) es1 a1) (hq1 : ∀ j v, es1[j]? = some v → w.cell? ⟨p1, 0 + j, none⟩ = some v) (s0 : 2 ≤ a1.1 ∧ a1.1 ≤ 6) (s1 : 1 ≤ a1.2.1 ∧ a1.2.1 ≤ 1000) :
    Calls Tryz.prog 28 #[.agg es0.toArray, .pointer (some ⟨p1, 0, none⟩)] w fun e w' => e = .returned (.bool ((fun r m => !ruleB m.1 m.2.1 r) a0 a1)) ∧ Below w.heap.size w w' := by
  have H0 := h0
  obtain ⟨rfl, gz0_0, gz0_1, gz0_2⟩ := shape_Rule h0
  have jz0_0 := gz0_0; unfold I64 at jz0_0
  have jz0_1 := gz0_1; unfold I64 at jz0_1
  have jz0_2 := gz0_2; unfold I64 at jz0_2
  have H1 := h1
  obtain ⟨Az1_2, cz1_2, rfl, gz1_0, gz1_1, gz1_2⟩ := shape_Machine h1
  have jz1_0 := gz1_0; unfold I64 at jz1_0
  have jz1_1 := gz1_1; unfold I64 at jz1_1
  have lz1_2 := gz1_2.len
  have HH1 := Held.start Nob w
  refine enter (n := 8) Tryz.func28 rfl rfl rfl fun a_2 HE3 => ?_
  refine wp_seq ?_
  refine rg ?_
  refine pl fun K_4 hK5 => ?_
  refine st_box (cs := [.int .i64 (a0.1), .int .i64 (a0.2.1), .int .i64 (a0.2.2)]) HE3 HH1 rfl rfl (wt0 rfl) rfl fun q21 a_6 w' HE7 HH8 => hK5 _ _ ?_
  refine pl_x HE7 HH8 (wt0 rfl) (x_assign rfl) rfl rfl fun a_9 HE10 => ?_
  refine wpList_nil ?_
  clear a_2 HE3 HH1 a_6 HE7 hK5 K_4
  refine nrm ?_
  refine wp_seq ?_
  refine rg ?_
  refine pl_x HE10 HH8 (wt0 rfl) (x_loadN (cs := [.int .i64 (a1.1), .int .i64 (a1.2.1), .slice Az1_2 (a1.2.2.length) cz1_2]) tv_24 rfl rfl (c_oldN hq1)) rfl rfl fun a_11 HE12 => ?_
  refine pl_x HE12 HH8 (wt0 rfl) (x_loadN (cs := [.int .i64 (a0.1), .int .i64 (a0.2.1), .int .i64 (a0.2.2)]) tv_34 rfl rfl (c_blkN 0 rfl)) rfl rfl fun a_13 HE14 => ?_
  refine pl fun K_15 hK16 => ?_
  refine st_call HE14 (wt0 rfl) rfl rfl rfl en_29 rfl rfl (impl_validRule [.int .i64 (a1.1), .int .i64 (a1.2.1), .slice Az1_2 (a1.2.2.length) cz1_2] a1 [.int .i64 (a0.1), .int .i64 (a0.2.1), .int .i64 (a0.2.2)] a0 _ (HH8.oldR H1) (HH8.oldR H0) (by omega) (by omega)) fun e w' hr => ?_
  obtain ⟨rfl, hbr22⟩ := hr
  have HH17 := HH8.on hbr22
  refine ⟨_, rfl, fun a_18 HE19 => hK16 _ _ ?_⟩
  refine pl_x HE19 HH17 (wt0 rfl) (x_not rfl) rfl rfl fun a_20 HE21 => ?_
  refine pl_x HE21 HH17 (wt0 rfl) (x_assign rfl) rfl rfl fun a_22 HE23 => ?_
  refine wpList_nil ?_
  clear a_9 HE10 a_11 HE12 HH8 a_13 HE14 a_18 HE19 a_20 HE21 hK16 K_15
  refine nrm ?_
  refine wp_ret ?_
  refine ret1 HE23 rfl (rv_tmp rfl) ?_
  have hF : ((fun r m => !ruleB m.1 m.2.1 r) a0 a1) = !(ruleB a1.1 a1.2.1 a0) := by
    rfl
  exact ⟨by first | (rw [hF] <;> rfl) | rfl | (rw [hF]; simp only [Ending.returned.injEq, Value.slice.injEq, true_and, and_true]; first | omega | (simp; done)) | (rw [hF]; simp; omega), HH17.below⟩

end Go.Proofs.YthfihlfjphiihaaGreatDoor
