/- What the proof of FnExactPalindromeMulti needs: contracts of the functions that it reaches, each once. -/
import Derived.Test.YtcfdkckchbdafaaProg
import Derived.Test.YtcfdkckchbdafaaQMem
import Derived.Test.YtcfdkckchbdafaaQOpen
import Derived.Test.YtcfdkckchbdafaaLPalindromeMultia
import Derived.WalkKit
import Derived.WalkSpells
import Derived.Below
import Derived.LoopTactic
import Derived.Outline
import Derived.Deep.QuietTactic
import Derived.BigQuiet
import Derived.Deep.LoopGhost
import Derived.Handy
import Derived.Lib.Hide
import Derived.Shelf.Abstract
import Derived.StillTailTactics
import Derived.OwnWalk
import Derived.Maps.AppendAt
import Derived.RegionTactic
import Derived.Deep.RegionHeld3
import Derived.IntWalk
import Derived.Deep.Upon
import Derived.Laws.OwnMore
import Derived.Maps.AppendAt
import Derived.Lib.FrozenHead
import Derived.Lib.RuneBytes
import Derived.Lib.LaidTab
import Derived.Laws.StructEq
import Derived.Lib.ItoaLen
import Derived.Lib.Join
import Derived.Shelf.Strconv.Itoa4
import Derived.Shelf.Strings.OnBuilder
import Derived.Shelf.Strings.BuilderK
import Derived.Shelf.Strings.BuilderRune
import Derived.Shelf.LaysM
import Derived.Ground.NamesProg
import Derived.Shelf.SlSortCmp.WholeK
import Derived.Shelf.SlSortCmp.NoneTotal
import Derived.Lib.RowBridge
namespace Go.Proofs.Ytcfdkckchbdafaa
open Go.RowKit

theorem Held.open {M : Nat → Prop} {w0 : World} {rs : List Res} {w : World} {α : Type} {E : Enc α} {S : Nat → Prop} {A : Option Addr} {c : Nat} {xs : List α} (h : Held M w0 (rSo E S A c xs :: rs) w) {k : Nat} (hk : k < xs.length) :
    ∃ b off es T, A = some ⟨b, off, none⟩ ∧ E.R w (Old w) es xs[k] ∧ (∀ m, T m → S m ∧ m ≠ b) ∧ Held M w0 (rFoc E (fun m => S m ∧ ¬ T m) b off c xs k es :: rO E T es xs[k] :: rs) w := by
  have hso := so_of_o (h.ok _ (List.mem_cons_self))
  have hrng := h.rng _ (List.mem_cons_self)
  obtain ⟨b, off, t, cur, T, hA, hb, hB, hT, hd, hc⟩ := hso.2.2 (by intro e; subst e; simp at hk)
  obtain ⟨es, h1, h2⟩ := hc k xs[k] (List.getElem?_eq_getElem hk)
  have hs := List.pairwise_cons.1 h.sep
  refine ⟨b, off, es, T k, hA, E.more (E.read h1) (fun m hm => (hrng m (hT k m hm).1).2), fun m hm => hT k m hm, h.chg, ?_, ?_, ?_⟩
  · intro r hr
    simp only [List.mem_cons] at hr
    rcases hr with rfl | rfl | hr
    · refine ⟨hk, hso.1, hso.2.1, ⟨hb, fun hm => (hT k b hm).2 rfl⟩, E.len (E.read h1), t, cur, fun i m => i ≠ k ∧ T i m, hB, fun i m hm => ⟨⟨(hT i m hm.2).1, fun hm' => hm.1 (hd i k m hm.2 hm')⟩, (hT i m hm.2).2⟩, fun i j m h3 h4 => hd i j m h3.2 h4.2, h2, fun i x hi hx => ?_⟩
      obtain ⟨us, q1, q2⟩ := hc i x hx
      exact ⟨us, E.omore q1 fun m hm => ⟨hi, hm⟩, q2⟩
    · exact h1
    · exact h.ok r (by simp [hr])
  · intro r hr m hm
    simp only [List.mem_cons] at hr
    rcases hr with rfl | rfl | hr
    · exact hrng m hm.1
    · exact hrng m (hT k m hm).1
    · exact h.rng r (by simp [hr]) m hm
  · refine List.pairwise_cons.2 ⟨fun r hr m hm hm' => ?_, List.pairwise_cons.2 ⟨fun r hr m hm hm' => hs.1 r hr m (hT k m hm).1 hm', hs.2⟩⟩
    rcases List.mem_cons.1 hr with rfl | hr
    · exact hm.2 hm'
    · exact hs.1 r hr m hm.1 hm'

theorem Held.shut {M : Nat → Prop} {w0 : World} {rs : List Res} {w : World} {α : Type} {E : Enc α} {S T : Nat → Prop} {b off c k : Nat} {xs : List α} {es : List Value} {y : α} (h : Held M w0 (rFoc E S b off c xs k es :: rO E T es y :: rs) w) : Held M w0 (rSo E (fun m => S m ∨ T m) (some ⟨b, off, none⟩) c (xs.set k y) :: rs) w := by
  refine h.join _ (fun hf ho hd => ?_) fun _ hb => hb
  obtain ⟨h1, h2, h3, h4, h5, t, cur, T', hB, hT, hd', hc, hr⟩ := hf
  refine oSl ⟨by rw [List.length_set]; exact h2, h3, fun _ => ⟨b, off, t, cur, fun i m => (i = k ∧ T m) ∨ (i ≠ k ∧ T' i m), rfl, .inl h4, hB, ?_, ?_, fun i x hx => ?_⟩⟩
  · rintro i m (⟨_, hm⟩ | ⟨_, hm⟩)
    · exact ⟨.inr hm, fun e => hd b h4 (e ▸ hm)⟩
    · exact ⟨.inl (hT i m hm).1, (hT i m hm).2⟩
  · rintro i j m (⟨hi, hm⟩ | ⟨hi, hm⟩) (⟨hj, hm'⟩ | ⟨hj, hm'⟩)
    · rw [hi, hj]
    · exact absurd hm (hd m (hT j m hm').1)
    · exact absurd hm' (hd m (hT i m hm).1)
    · exact hd' i j m hm hm'
  · by_cases e : i = k
    · subst e
      rw [List.getElem?_set_self h1] at hx
      simp at hx; subst hx
      exact ⟨es, E.omore ho fun m hm => .inl ⟨rfl, hm⟩, hc⟩
    · rw [List.getElem?_set_ne (fun h => e h.symm)] at hx
      obtain ⟨us, q1, q2⟩ := hr i x e hx
      exact ⟨us, E.omore q1 fun m hm => .inr ⟨e, hm⟩, q2⟩

theorem c_foc {M : Nat → Prop} {w0 : World} {rs : List Res} {α : Type} {E : Enc α} {S : Nat → Prop} {b off c k : Nat} {xs : List α} {es : List Value} {j : Nat} {v : Value} (i : Nat) (hi : rs[i]? = some (rFoc E S b off c xs k es)) (hv : es[j]? = some v) : ∀ w, Held M w0 rs w → w.cell? ⟨b, off + k * E.size + j, none⟩ = some v := fun w h => by
  obtain ⟨h1, h2, h3, h4, h5, t, cur, T, hB, hT, hd, hc, hr⟩ := h.get hi
  rw [hB.cell]; exact hc j v hv

/-- A store into a cell of the element that is laid open. -/
theorem st_storeF {P : Program} {ops : Array Oper} {Q : Exit → Act → World → Prop} {a : Act} {w : World} {K : Act → World → Prop} {n : Nat} {L : List (Nat × Value)} {M : Nat → Prop} {w0 : World} {rs : List Res} {α : Type} {E : Enc α} {t : TypeId} {z0 : Value} {x y : Operand} {S : Nat → Prop} {b off c k j o : Nat} {xs : List α} {es : List Value} {v : Value} {ty : TypeId} {pos : String} {af : Array Edge} {gd : Option (Nat × Bool)} (i : Nat) (hE : Env n L a) (hH : Held M w0 rs w) (ht : TV P t false [z0]) (hx : ev L x = some (.pointer (some ⟨b, o, none⟩))) (ho : o = off + k * E.size + j) (hy : ev L y = some v) (hv : v.oneCell' = true) (hi : rs[i]? = some (rFoc E S b off c xs k es)) (hj : Nat.blt j es.length = true) (hw : Region.wanted ⟨none, .store t x y, ty, pos, af, gd⟩ (yielded ops a.tmps) = true)
    (kk : ∀ w', Held M w0 (rs.set i (rFoc E S b off c xs k (es.set j v))) w' → K a w') : Stp P ops Q ⟨none, .store t x y, ty, pos, af, gd⟩ a w K := by
  have hj' : j < es.length := by simpa [Nat.blt_eq] using hj
  have hf : Foc E w S b off c xs k es := hH.get hi
  subst ho
  obtain ⟨h1, h2, h3, h4, h5, tt, cur, T, hB, hT, hd, hc, hr⟩ := hf
  have hcell : w.cell? ⟨b, off + k * E.size + j, none⟩ = some es[j] := by rw [hB.cell]; exact hc j _ (List.getElem?_eq_getElem hj')
  have hfz : w.frozen? ⟨b, off + k * E.size + j, none⟩ = false := hB.frozen _
  have hlt : off + k * E.size + j < cur.size := lt_of_get (hc j _ (List.getElem?_eq_getElem hj'))
  have hnew : Foc E (w.setCell ⟨b, off + k * E.size + j, none⟩ v) S b off c xs k (es.set j v) := by
    refine ⟨h1, h2, h3, h4, by simpa using h5, tt, _, T, hB.set _ v, hT, hd, fun j' u hu => ?_, fun i' y' hi' hx' => ?_⟩
    · by_cases e : j' = j
      · subst e
        rw [List.getElem?_set_self hj'] at hu
        rw [Array.getElem?_setIfInBounds_self_of_lt hlt]; exact hu
      · rw [List.getElem?_set_ne (fun h => e h.symm)] at hu
        rw [Array.getElem?_setIfInBounds_ne (by omega)]; exact hc j' u hu
    · obtain ⟨us, q1, q2⟩ := hr i' y' hi' hx'
      refine ⟨us, E.okeep q1 fun m hm => Below.heap_setCell _ _ _ _ (hT i' m hm).2, fun j' u hu => ?_⟩
      have hju := (List.getElem?_eq_some_iff.1 hu).1
      have hlu := E.len (E.read q1)
      rw [Array.getElem?_setIfInBounds_ne]
      · exact q2 j' u hu
      · rcases Nat.lt_or_gt_of_ne hi' with hlt' | hlt'
        · have : (i' + 1) * E.size ≤ k * E.size := Nat.mul_le_mul_right _ (by omega)
          rw [Nat.succ_mul] at this; omega
        · have : (k + 1) * E.size ≤ i' * E.size := Nat.mul_le_mul_right _ (by omega)
          rw [Nat.succ_mul] at this; omega
  have h6 : Held M w0 (rs.set i (rFoc E S b off c xs k (es.set j v))) (w.setCell ⟨b, off + k * E.size + j, none⟩ v) := hH.mut hi ((Chg.refl _ _).set (by exact h4) _) (rFoc E S b off c xs k (es.set j v)) hnew fun b hb => .inl hb
  refine st_skip hw ?_ rfl (kk _ h6)
  obtain ⟨ii, z, e1, _, e3, _⟩ := ht.info
  simp only [execOp, hE.ev hx, hE.ev hy, Instr.storeAt, Instr.sureAddr, storeVar, sizeOf, typeInfo, Sem.run_bind, Sem.run_pure, Result.andThen_ok, run_program, e1]
  have e3' : ii.size = 1 := e3
  have hs : (Go.store ⟨b, off + k * E.size + j, none⟩ v).run P w = .ok () (w.setCell ⟨b, off + k * E.size + j, none⟩ v) := by
    cases v <;> first | (simp [Value.oneCell'] at hv; done) | simp [Go.store, Sem.run, hcell, hfz]
  simp [one_cells hv, e3', storeCells, add_none, hs]

theorem Held.relen {M : Nat → Prop} {w0 : World} {rs : List Res} {w : World} {α : Type} {E : Enc α} {S : Nat → Prop} {A : Option Addr} {c n : Nat} {xs : List α} (h : Held M w0 (rSo E S A c xs :: rs) w) (hn : xs.length = n) : Held M w0 (rO (eSl E) S [.slice A n c] xs :: rs) w := hn ▸ h

theorem Held.lt {M : Nat → Prop} {w0 : World} {rs : List Res} {w : World} (h : Held M w0 rs w) {i : Nat} {r : Res} (hi : rs[i]? = some r) : ∀ b, r.S b → b < w.heap.size := fun b hb => (h.rng r (List.mem_of_getElem? hi) b hb).2

/-- What a callee made, beside what is held. -/
theorem Held.app {M : Nat → Prop} {w0 : World} {rs qs : List Res} {w w' : World} (h : Held M w0 rs w) (h' : Held Nob w qs w') : Held M w0 (qs ++ rs) w' where
  chg := (h.on h'.below).chg
  ok := by
    intro r hr
    rcases List.mem_append.1 hr with hr | hr
    · exact h'.ok r hr
    · exact (h.on h'.below).ok r hr
  rng := by
    intro r hr b hb
    rcases List.mem_append.1 hr with hr | hr
    · have h1 := h'.rng r hr b hb
      exact ⟨.inr (Nat.le_trans h.size (h1.1.resolve_left fun q => q.elim)), h1.2⟩
    · exact (h.on h'.below).rng r hr b hb
  sep := by
    refine List.pairwise_append.2 ⟨h'.sep, h.sep, fun r hr s hs b hb hb' => ?_⟩
    have h1 := (h'.rng r hr b hb).1.resolve_left fun q => q.elim
    have h2 := (h.rng s hs b hb').2
    omega

/-- Held only if p holds. -/
def rIf (p : Prop) (r : Res) : Res := ⟨r.S, fun w => p → r.φ w, fun w w' h hp hq => r.loc w w' h (hp hq)⟩

theorem Held.toIf {M : Nat → Prop} {w0 : World} {rs : List Res} {r : Res} {w : World} (h : Held M w0 (r :: rs) w) (p : Prop) : Held M w0 (rIf p r :: rs) w :=
  h.turn (rIf p r) (fun hr _ => hr) fun _ h => h

theorem Held.ofIf {M : Nat → Prop} {w0 : World} {rs : List Res} {r : Res} {w : World} {p : Prop} (h : Held M w0 (rIf p r :: rs) w) (hp : p) : Held M w0 (r :: rs) w :=
  h.turn r (fun hr => hr hp) fun _ h => h

theorem Held.noIf {M : Nat → Prop} {w0 : World} {rs : List Res} {w : World} {p : Prop} (h : Held M w0 rs w) {α : Type} {E : Enc α} {A : Option Addr} {c : Nat} {xs : List α} (r : Res) (hp : ¬ p) (hr : r = rSo E Nob A c xs := by rfl) : Held M w0 (rIf p r :: rs) w := by
  subst hr
  exact h.new (Below.refl _ _) (rIf p (rSo E Nob A c xs)) (fun hq => absurd hq hp) fun _ h => h.elim

/-- n cells, as they are. -/
def eRaw (n : Nat) (hn : 0 < n) : Enc (List Value) where
  size := n
  pos := hn
  R := fun _ _ cs x => cs = x ∧ x.length = n ∧ ∀ v ∈ x, v.oneCell' = true
  len := by rintro _ _ _ _ ⟨rfl, h, _⟩; exact h
  keep := fun h _ => h
  more := fun h _ => h
  O := fun _ _ cs x => cs = x ∧ x.length = n ∧ ∀ v ∈ x, v.oneCell' = true
  read := fun h => h
  okeep := fun h _ => h
  omore := fun h _ => h

/-- What the elements own, each for itself. -/
def Els {α : Type} (E : Enc α) (w : World) : (Nat → Prop) → List (List Value × α) → Prop
  | _, [] => True
  | S, p :: ps => ∃ S1 S2 : Nat → Prop, (∀ b, S1 b → S b ∧ ¬ S2 b) ∧ (∀ b, S2 b → S b) ∧ E.O w S1 p.1 p.2 ∧ Els E w S2 ps

theorem Els.keep {α : Type} {E : Enc α} {w w' : World} : ∀ {ps : List (List Value × α)} {S : Nat → Prop}, Els E w S ps → (∀ b, S b → w'.heap[b]? = w.heap[b]?) → Els E w' S ps
  | [], _, _, _ => trivial
  | _ :: _, _, ⟨S1, S2, h1, h2, h3, h4⟩, hk => ⟨S1, S2, h1, h2, E.okeep h3 fun b hb => hk b (h1 b hb).1, Els.keep h4 fun b hb => hk b (h2 b hb)⟩

theorem Els.more {α : Type} {E : Enc α} {w : World} : ∀ {ps : List (List Value × α)} {S S' : Nat → Prop}, Els E w S ps → (∀ b, S b → S' b) → Els E w S' ps
  | [], _, _, _, _ => trivial
  | _ :: _, _, _, ⟨S1, S2, h1, h2, h3, h4⟩, hm => ⟨S1, S2, fun b hb => ⟨hm b (h1 b hb).1, (h1 b hb).2⟩, fun b hb => hm b (h2 b hb), h3, h4⟩

theorem Els.perm {α : Type} {E : Enc α} {w : World} {ps qs : List (List Value × α)} (h : ps.Perm qs) : ∀ S, Els E w S ps → Els E w S qs := by
  induction h with
  | nil => exact fun _ h => h
  | cons p _ ih => rintro S ⟨S1, S2, h1, h2, h3, h4⟩; exact ⟨S1, S2, h1, h2, h3, ih _ h4⟩
  | swap p q ps =>
    rintro S ⟨S1, S2, h1, h2, h3, S3, S4, h5, h6, h7, h8⟩
    refine ⟨S3, fun b => S1 b ∨ S4 b, fun b hb => ⟨h2 b (h5 b hb).1, ?_⟩, ?_, h7, S1, S4, fun b hb => ⟨.inl hb, fun h => (h1 b hb).2 (h6 b h)⟩, fun b hb => .inr hb, h3, h8⟩
    · rintro (h | h)
      · exact (h1 b h).2 (h5 b hb).1
      · exact (h5 b hb).2 h
    · rintro b (h | h)
      · exact (h1 b h).1
      · exact h2 b (h6 b h)
  | trans _ _ i1 i2 => exact fun S h => i2 S (i1 S h)

theorem els_of {α : Type} {E : Enc α} {w : World} : ∀ (ps : List (List Value × α)) (T : Nat → Nat → Prop), (∀ i j b, T i b → T j b → i = j) → (∀ i p, ps[i]? = some p → E.O w (T i) p.1 p.2) → Els E w (fun b => ∃ i, T i b) ps
  | [], _, _, _ => trivial
  | p :: ps, T, hd, h => ⟨T 0, fun b => ∃ i, T (i + 1) b, fun b hb => ⟨⟨0, hb⟩, fun ⟨i, hi⟩ => by have := hd _ _ _ hb hi; omega⟩, fun b ⟨i, hi⟩ => ⟨i + 1, hi⟩, h 0 p rfl, els_of ps (fun i => T (i + 1)) (fun i j b h1 h2 => by have := hd _ _ _ h1 h2; omega) fun i q hq => h (i + 1) q (by simpa using hq)⟩

theorem els_fam {α : Type} {E : Enc α} {w : World} : ∀ (ps : List (List Value × α)) (S : Nat → Prop), Els E w S ps → ∃ T : Nat → Nat → Prop, (∀ i b, T i b → S b) ∧ (∀ i j b, T i b → T j b → i = j) ∧ ∀ i p, ps[i]? = some p → E.O w (T i) p.1 p.2
  | [], _, _ => ⟨fun _ _ => False, fun _ _ h => h.elim, fun _ _ _ h => h.elim, fun i p h => by simp at h⟩
  | p :: ps, S, ⟨S1, S2, h1, h2, h3, h4⟩ => by
    obtain ⟨T, t1, t2, t3⟩ := els_fam ps S2 h4
    refine ⟨fun i => match i with | 0 => S1 | i + 1 => T i, fun i b hb => ?_, fun i j b hi hj => ?_, fun i q hq => ?_⟩
    · cases i with
      | zero => exact (h1 b hb).1
      | succ i => exact h2 b (t1 i b hb)
    · cases i with
      | zero =>
        cases j with
        | zero => rfl
        | succ j => exact absurd (t1 j b hj) (h1 b hi).2
      | succ i =>
        cases j with
        | zero => exact absurd (t1 i b hi) (h1 b hj).2
        | succ j => rw [t2 i j b hi hj]
    · cases i with
      | zero => simp at hq; subst hq; exact h3
      | succ i => exact t3 i q (by simpa using hq)

def rEls {α : Type} (E : Enc α) (S : Nat → Prop) (ps : List (List Value × α)) : Res := ⟨S, fun w => Els E w S ps, fun _ _ h hv => hv.keep h⟩

/-- One part becomes two. -/
theorem Held.cleave {M : Nat → Prop} {w0 : World} {r : Res} {rs : List Res} {w : World} (h : Held M w0 (r :: rs) w) (p q : Res) (hp : p.φ w) (hq : q.φ w) (h1 : ∀ b, p.S b → r.S b) (h2 : ∀ b, q.S b → r.S b) (hd : ∀ b, p.S b → ¬ q.S b) : Held M w0 (p :: q :: rs) w where
  chg := h.chg
  ok := by
    intro x hx
    rcases List.mem_cons.1 hx with rfl | hx
    · exact hp
    rcases List.mem_cons.1 hx with rfl | hx
    · exact hq
    exact h.ok x (by simp [hx])
  rng := by
    intro x hx b hb
    rcases List.mem_cons.1 hx with rfl | hx
    · exact h.rng r (by simp) b (h1 b hb)
    rcases List.mem_cons.1 hx with rfl | hx
    · exact h.rng r (by simp) b (h2 b hb)
    exact h.rng x (by simp [hx]) b hb
  sep := by
    have hs := List.pairwise_cons.1 h.sep
    refine List.pairwise_cons.2 ⟨fun x hx b hb hb' => ?_, List.pairwise_cons.2 ⟨fun x hx b hb hb' => hs.1 x hx b (h2 b hb) hb', hs.2⟩⟩
    rcases List.mem_cons.1 hx with rfl | hx
    · exact hd b hb hb'
    · exact hs.1 x hx b (h1 b hb) hb'

/-- A row taken apart. -/
theorem Held.explode {M : Nat → Prop} {w0 : World} {rs : List Res} {w : World} {α : Type} {E : Enc α} {t : TypeId} {S : Nat → Prop} {A : Option Addr} {c : Nat} {xs : List α} (h : Held M w0 (rVec E t S A c xs :: rs) w) (h1 : ∀ w S es x, E.R w S es x → ∀ v ∈ es, v.oneCell' = true) :
    ∃ css S1 S2, List.length css = xs.length ∧ Held M w0 (rVec (eRaw E.size E.pos) t S1 A c css :: rEls E S2 (css.zip xs) :: rs) w := by
  obtain ⟨css, T, hl, ho, hb, hT, hd, hx⟩ := (h.ok _ List.mem_cons_self : Vec E t w S (.slice A xs.length c) xs)
  refine ⟨css, fun b => Value.ownBlock (.slice A xs.length c) = some b, fun b => ∃ i, T i b, hl, h.cleave _ _ ?_ ?_ (fun b hb' => hb b hb') (fun b ⟨i, hi⟩ => (hT i b hi).1) (fun b hb' ⟨i, hi⟩ => (hT i b hi).2 hb')⟩
  · show Vec (eRaw E.size E.pos) t w _ (.slice A css.length c) css
    rw [hl]
    refine ⟨css, fun _ _ => False, rfl, ?_, fun b hb' => hb', fun _ _ h => h.elim, fun _ _ _ h => h.elim, fun i x hi => ⟨x, hi, rfl, ?_⟩⟩
    · rw [hl]; exact ho
    · have hi' := (List.getElem?_eq_some_iff.1 hi).1
      obtain ⟨es, h2, h3⟩ := hx i xs[i] (List.getElem?_eq_getElem (by omega))
      rw [h2] at hi
      obtain rfl := Option.some.inj hi
      exact ⟨E.len (E.read h3), h1 _ _ _ _ (E.read h3)⟩
  · refine els_of _ T hd fun i p hp => ?_
    rw [List.getElem?_zip_eq_some] at hp
    obtain ⟨es, h2, h3⟩ := hx i p.2 hp.2
    rw [h2] at hp
    rw [← Option.some.inj hp.1]; exact h3

/-- .. and put together again. -/
theorem Held.implode {M : Nat → Prop} {w0 : World} {rs : List Res} {w : World} {α : Type} {E : Enc α} {t : TypeId} {S1 S2 : Nat → Prop} {A : Option Addr} {c : Nat} {css : List (List Value)} {xs : List α} {ps : List (List Value × α)} (h : Held M w0 (rVec (eRaw E.size E.pos) t S1 A c css :: rEls E S2 ps :: rs) w) (hl : css.length = xs.length) (hp : ps.Perm (css.zip xs)) :
    ∃ S, Held M w0 (rVec E t S A c xs :: rs) w := by
  refine ⟨fun b => S1 b ∨ S2 b, h.join _ (fun h1 h2 hd => ?_) fun _ hb => hb⟩
  obtain ⟨css', T', hl', ho, hb, _, _, hx⟩ := (h1 : Vec (eRaw E.size E.pos) t w S1 (.slice A css.length c) css)
  have e : css' = css := List.ext_getElem? fun i => by
    rcases Nat.lt_or_ge i css.length with hi | hi
    · obtain ⟨es, h3, h4⟩ := hx i css[i] (List.getElem?_eq_getElem hi)
      rw [h3, List.getElem?_eq_getElem hi, h4.1]
    · rw [List.getElem?_eq_none (by omega), List.getElem?_eq_none hi]
  subst e
  obtain ⟨T, t1, t2, t3⟩ := els_fam _ _ (Els.perm hp _ (h2 : Els E w S2 ps))
  show Vec E t w _ (.slice A xs.length c) xs
  rw [hl] at ho hb
  refine ⟨css', T, hl, ho, fun b hb' => .inl (hb b hb'), fun i b hi => ⟨.inr (t1 i b hi), fun hb' => hd b (hb b hb') (t1 i b hi)⟩, t2, fun i x hi => ?_⟩
  have hi' := (List.getElem?_eq_some_iff.1 hi).1
  have hc : css'[i]? = some css'[i] := List.getElem?_eq_getElem (by omega)
  exact ⟨css'[i], hc, t3 i (css'[i], x) (List.getElem?_zip_eq_some.2 ⟨hc, hi⟩)⟩

/-- The first element's memory, for itself. -/
theorem Held.peel {M : Nat → Prop} {w0 : World} {rs : List Res} {w : World} {α : Type} {E : Enc α} {S : Nat → Prop} {p : List Value × α} {ps : List (List Value × α)} (h : Held M w0 (rEls E S (p :: ps) :: rs) w) : ∃ S1 S2, Held M w0 (rO E S1 p.1 p.2 :: rEls E S2 ps :: rs) w := by
  obtain ⟨S1, S2, h1, h2, h3, h4⟩ := (h.ok _ List.mem_cons_self : Els E w S (p :: ps))
  exact ⟨S1, S2, h.cleave (rO E S1 p.1 p.2) (rEls E S2 ps) h3 h4 (fun b hb => (h1 b hb).1) h2 fun b hb => (h1 b hb).2⟩

theorem Held.unpeel {M : Nat → Prop} {w0 : World} {rs : List Res} {w : World} {α : Type} {E : Enc α} {S1 S2 : Nat → Prop} {p : List Value × α} {ps : List (List Value × α)} (h : Held M w0 (rO E S1 p.1 p.2 :: rEls E S2 ps :: rs) w) : ∃ S, Held M w0 (rEls E S (p :: ps) :: rs) w :=
  ⟨fun b => S1 b ∨ S2 b, h.join (rEls E _ (p :: ps)) (fun h1 h2 hd => ⟨S1, S2, fun b hb => ⟨.inl hb, hd b hb⟩, fun b hb => .inr hb, h1, h2⟩) fun _ hb => hb⟩

theorem Held.elsPerm {M : Nat → Prop} {w0 : World} {rs : List Res} {w : World} {α : Type} {E : Enc α} {S : Nat → Prop} {ps qs : List (List Value × α)} (h : Held M w0 (rEls E S ps :: rs) w) (hp : ps.Perm qs) : Held M w0 (rEls E S qs :: rs) w :=
  h.turn (rEls E S qs) (fun h1 => Els.perm hp _ h1) fun _ hb => hb

theorem Held.exch {M : Nat → Prop} {w0 : World} {rs : List Res} {w : World} (h : Held M w0 rs w) {i : Nat} {r : Res} (hi : rs[i]? = some r) (r' : Res) (hr : r'.φ w) (hS : ∀ b, r'.S b → r.S b) : Held M w0 (rs.set i r') w :=
  h.mut hi (Chg.refl _ _) r' hr fun b hb => .inl (hS b hb)

theorem Held.elsRd {M : Nat → Prop} {w0 : World} {rs : List Res} {w : World} {α : Type} {E : Enc α} {S : Nat → Prop} {ps : List (List Value × α)} (h : Held M w0 rs w) {i : Nat} (hi : rs[i]? = some (rEls E S ps)) {k : Nat} {es : List Value} {x : α} (hk : ps[k]? = some (es, x)) : E.R w (Old w) es x := by
  obtain ⟨T, t1, t2, t3⟩ := els_fam _ _ (h.get hi : Els E w S ps)
  exact E.more (E.read (t3 k (es, x) hk)) fun b hb => (h.rng _ (List.mem_of_getElem? hi) b (t1 k b hb)).2

theorem raw_vec {n : Nat} {hn : 0 < n} {t : TypeId} {w : World} {S : Nat → Prop} {A : Option Addr} {c : Nat} {css : List (List Value)} (h : Vec (eRaw n hn) t w S (.slice A css.length c) css) (h0 : css ≠ []) :
    ∃ (g : Nat) (cur : Array Value), A = some ⟨g, 0, none⟩ ∧ S g ∧ Blk w g t cur ∧ css.length ≤ c ∧ c ≤ maxLen ∧ cur.size = c * n ∧ cur.toList.take (css.length * n) = css.flatten ∧ (∀ es ∈ css, es.length = n ∧ ∀ v ∈ es, v.oneCell' = true) := by
  obtain ⟨css', T, hl, ho, hb, _, _, hx⟩ := h
  have hx2 : ∀ i (hi : i < css.length), css'[i]? = some css[i] ∧ css[i].length = n ∧ ∀ v ∈ css[i], v.oneCell' = true := fun i hi => by
    obtain ⟨es, h1, h2, h3, h4⟩ := hx i css[i] (List.getElem?_eq_getElem hi)
    subst h2
    exact ⟨h1, h3, h4⟩
  have e : css' = css := List.ext_getElem? fun i => by
    rcases Nat.lt_or_ge i css.length with hi | hi
    · rw [(hx2 i hi).1, List.getElem?_eq_getElem hi]
    · rw [List.getElem?_eq_none (by omega), List.getElem?_eq_none hi]
  subst e
  have hall : ∀ es ∈ css', es.length = n ∧ ∀ v ∈ es, v.oneCell' = true := fun es he => by
    obtain ⟨i, hi, rfl⟩ := List.mem_iff_getElem.1 he
    exact (hx2 i hi).2
  obtain ⟨ho1, ho2⟩ := ho
  rcases ho2 with ⟨h1, h2⟩ | ⟨g, cap, cur, hv, _, hh, h3, h4, h5, h6⟩
  · have hlen : css'.length = 0 := by
      simp only [Value.slice.injEq] at h1
      exact h1.2.1
    exact absurd (List.eq_nil_of_length_eq_zero hlen) h0
  · simp only [Value.slice.injEq] at hv
    obtain ⟨rfl, _, rfl⟩ := hv
    exact ⟨g, cur, rfl, hb g rfl, hh, h3, h4, h5, h6, hall⟩

theorem Held.rawAt {M : Nat → Prop} {w0 : World} {rs : List Res} {w : World} {n : Nat} {hn : 0 < n} {t : TypeId} {S : Nat → Prop} {A : Option Addr} {c : Nat} {css : List (List Value)} (h : Held M w0 rs w) {i : Nat} (hi : rs[i]? = some (rVec (eRaw n hn) t S A c css)) {k : Nat} (hk : k < css.length) : ∃ g, A = some ⟨g, 0, none⟩ := by
  obtain ⟨g, _, hA, _⟩ := raw_vec (h.get hi : Vec (eRaw n hn) t w S (.slice A css.length c) css) (fun e => by rw [e] at hk; exact absurd hk (Nat.not_lt_zero _))
  exact ⟨g, hA⟩

theorem Held.rawLen {M : Nat → Prop} {w0 : World} {rs : List Res} {w : World} {n : Nat} {hn : 0 < n} {t : TypeId} {S : Nat → Prop} {A : Option Addr} {c : Nat} {css : List (List Value)} (h : Held M w0 rs w) {i : Nat} (hi : rs[i]? = some (rVec (eRaw n hn) t S A c css)) : ∀ es ∈ css, es.length = n ∧ ∀ v ∈ es, v.oneCell' = true := by
  intro es he
  obtain ⟨g, _, _, _, _, _, _, _, _, hall⟩ := raw_vec (h.get hi : Vec (eRaw n hn) t w S (.slice A css.length c) css) (fun e => by rw [e] at he; cases he)
  exact hall es he

theorem c_rawN {M : Nat → Prop} {w0 : World} {rs : List Res} {n : Nat} {hn : 0 < n} {t : TypeId} {S : Nat → Prop} {g c : Nat} {css : List (List Value)} {es : List Value} (i : Nat) (hi : rs[i]? = some (rVec (eRaw n hn) t S (some ⟨g, 0, none⟩) c css)) {k m : Nat} (hm : m = n) (hk : css[k]? = some es) : ∀ w, Held M w0 rs w → ∀ j v, es[j]? = some v → w.cell? ⟨g, 0 + k * m + j, none⟩ = some v := fun w h j v hv => by
  subst hm
  have hk' := (List.getElem?_eq_some_iff.1 hk).1
  obtain ⟨g', cur, hA, _, hB, _, _, _, ht, hall⟩ := raw_vec (h.get hi : Vec (eRaw m hn) t w S (.slice (some ⟨g, 0, none⟩) css.length c) css) (fun e => by rw [e] at hk'; exact absurd hk' (Nat.not_lt_zero _))
  simp only [Option.some.injEq, Addr.mk.injEq, and_true] at hA
  obtain rfl := hA
  have hes := (hall es (List.mem_of_getElem? hk)).1
  have hj : j < m := by have := (List.getElem?_eq_some_iff.1 hv).1; omega
  have h1 := flatten_at m css (fun x hx => (hall x hx).1) k es hk j hj
  have h2 : k * m + j < css.length * m := by
    have : (k + 1) * m ≤ css.length * m := Nat.mul_le_mul_right _ hk'
    rw [Nat.succ_mul] at this; omega
  rw [hB.cell, ← hv, ← h1, ← ht, List.getElem?_take_of_lt h2, Nat.zero_add]
  simp

theorem setL_split (pre : List Value) : ∀ (vs mid post : List Value), mid.length = vs.length → setL (pre ++ mid ++ post) pre.length vs = pre ++ vs ++ post := by
  intro vs
  induction vs generalizing pre with
  | nil =>
    intro mid post h
    have : mid = [] := List.eq_nil_of_length_eq_zero (by simpa using h)
    subst this; rfl
  | cons v vs ih =>
    intro mid post h
    cases mid with
    | nil => simp at h
    | cons m mid =>
      have e : (pre ++ (m :: mid) ++ post).set pre.length v = (pre ++ [v]) ++ mid ++ post := by simp
      rw [setL, e]
      have := ih (pre ++ [v]) mid post (by simpa using h)
      rw [List.length_append, List.length_singleton] at this
      rw [this]; simp

/-- A whole element of raw cells is written. -/
theorem st_storeRaw {P : Program} {ops : Array Oper} {Q : Exit → Act → World → Prop} {a : Act} {w : World} {K : Act → World → Prop} {nn : Nat} {L : List (Nat × Value)} {M : Nat → Prop} {w0 : World} {rs : List Res} {t tb : TypeId} {agg : Bool} {zs : List Value} {x y : Operand} {g : Nat} {v : Value} {vs : List Value} {n : Nat} {hn : 0 < n} {S : Nat → Prop} {c : Nat} {css : List (List Value)} {k m : Nat} {ty : TypeId} {pos : String} {af : Array Edge} {gd : Option (Nat × Bool)} (i : Nat) (hE : Env nn L a) (hH : Held M w0 rs w) (ht : TV P t agg zs) (hx : ev L x = some (.pointer (some ⟨g, 0 + k * m, none⟩))) (hy : ev L y = some v) (hv : v.cells = vs.toArray) (hz : n = zs.length) (hi : rs[i]? = some (rVec (eRaw n hn) tb S (some ⟨g, 0, none⟩) c css)) (hm : m = n) (hk : k < css.length) (hl : vs.length = n) (h1 : ∀ v ∈ vs, v.oneCell' = true) (hw : Region.wanted ⟨none, .store t x y, ty, pos, af, gd⟩ (yielded ops a.tmps) = true)
    (kk : ∀ w', Held M w0 (rs.set i (rVec (eRaw n hn) tb (fun b => b = g) (some ⟨g, 0, none⟩) c (css.set k vs))) w' → K a w') : Stp P ops Q ⟨none, .store t x y, ty, pos, af, gd⟩ a w K := by
  subst hm
  obtain ⟨g', cur, hA, hSg, hB, hc1, hc2, hsz, htk, hall⟩ := raw_vec (hH.get hi : Vec (eRaw m hn) tb w S (.slice (some ⟨g, 0, none⟩) css.length c) css) (fun e => by rw [e] at hk; exact absurd hk (Nat.not_lt_zero _))
  simp only [Option.some.injEq, Addr.mk.injEq, and_true] at hA
  obtain rfl := hA
  have hi' := (List.getElem?_eq_some_iff.1 hi).1
  have h2 := hH.exch hi (rBlk g tb cur.toList) (show Blk w g tb cur.toList.toArray from by simpa using hB) (fun b (hb : b = g) => by subst hb; exact hSg)
  have e0 : css = css.take k ++ css[k] :: css.drop (k + 1) := by rw [← List.drop_eq_getElem_cons hk, List.take_append_drop]
  have hpre : (css.take k).flatten.length = k * m := by
    have key : ∀ l : List (List Value), (∀ x ∈ l, x.length = m) → l.flatten.length = l.length * m := by
      intro l
      induction l with
      | nil => intro _; simp
      | cons q l ih => intro hq; rw [List.flatten_cons, List.length_append, ih fun x hx => hq x (by simp [hx]), hq q (by simp), List.length_cons, Nat.succ_mul]; omega
    rw [key _ fun x hx => (hall x (List.mem_of_mem_take hx)).1, List.length_take, Nat.min_eq_left (by omega)]
  have hfl : css.flatten = (css.take k).flatten ++ css[k] ++ (css.drop (k + 1)).flatten := by
    conv => lhs; rw [e0]
    rw [List.flatten_append, List.flatten_cons, List.append_assoc]
  obtain ⟨rest, hrest⟩ : ∃ rest, cur.toList = css.flatten ++ rest := ⟨cur.toList.drop (css.length * m), by rw [← htk, List.take_append_drop]⟩
  have hset : setL cur.toList (k * m) vs = (css.set k vs).flatten ++ rest := by
    have := setL_split (css.take k).flatten vs css[k] ((css.drop (k + 1)).flatten ++ rest) (by rw [(hall css[k] (List.getElem_mem _)).1, hl])
    rw [hpre] at this
    rw [hrest, hfl, List.append_assoc, this, List.set_eq_take_append_cons_drop, if_pos hk, List.flatten_append, List.flatten_cons]
    simp
  have hcl : cur.toList.length = c * m := by simpa using hsz
  have hkm : k * m + vs.length ≤ cur.toList.length := by
    have : (k + 1) * m ≤ c * m := Nat.mul_le_mul_right _ (by omega)
    rw [Nat.succ_mul] at this; omega
  obtain ⟨w', h3, h4⟩ := run_storeAt (P := P) (o := 0 + k * m) ht hv (by omega) h2 (List.getElem?_set_self hi') (by omega) h1
  rw [List.set_set, Nat.zero_add, hset] at h4
  refine st_skip hw ?_ rfl (kk w' ?_)
  · simp only [execOp, hE.ev hx, hE.ev hy, Sem.run_bind, h3, Result.andThen_ok, Sem.run_pure]
  · have h5 := h4.exch (i := i) (List.getElem?_set_self hi') (rVec (eRaw m hn) tb (fun b => b = g) (some ⟨g, 0, none⟩) c (css.set k vs)) ?_ (fun b hb => hb)
    · rwa [List.set_set] at h5
    · have hB' : Blk w' g tb ((css.set k vs).flatten ++ rest).toArray := h4.get (List.getElem?_set_self hi')
      have hall' : ∀ es ∈ css.set k vs, es.length = m ∧ ∀ v ∈ es, v.oneCell' = true := fun es he => by
        rcases List.mem_or_eq_of_mem_set he with he | rfl
        · exact hall es he
        · exact ⟨hl, h1⟩
      have hlen : (css.set k vs).flatten.length = css.length * m := by
        have key : ∀ l : List (List Value), (∀ x ∈ l, x.length = m) → l.flatten.length = l.length * m := by
          intro l
          induction l with
          | nil => intro _; simp
          | cons q l ih => intro hq; rw [List.flatten_cons, List.length_append, ih fun x hx => hq x (by simp [hx]), hq q (by simp), List.length_cons, Nat.succ_mul]; omega
        rw [key _ fun x hx => (hall' x hx).1, List.length_set]
      show Vec (eRaw m hn) tb w' _ (.slice (some ⟨g, 0, none⟩) (css.set k vs).length c) (css.set k vs)
      refine ⟨css.set k vs, fun _ _ => False, rfl, ⟨by rw [List.length_set]; exact hlen, .inr ⟨g, c, _, by rw [List.length_set], Nat.zero_le _, hB', by rw [List.length_set]; exact hc1, hc2, ?_, ?_⟩⟩, fun b hb => by simpa [Value.ownBlock] using hb.symm, fun _ _ h => h.elim, fun _ _ _ h => h.elim, fun j es hj => ⟨es, hj, rfl, hall' es (List.mem_of_getElem? hj)⟩⟩
      · have := congrArg List.length hset
        have hsl : (setL cur.toList (k * m) vs).length = cur.toList.length := by
          have key : ∀ (vs : List Value) (cs : List Value) (o : Nat), (setL cs o vs).length = cs.length := by
            intro vs
            induction vs with
            | nil => intro _ _; rfl
            | cons v vs ih => intro cs o; rw [setL, ih, List.length_set]
          exact key _ _ _
        have hq : ((css.set k vs).flatten ++ rest).toArray.size = c * m := by simpa [← this, hsl] using hsz
        exact hq
      · rw [List.length_set]
        show List.take (css.length * m) _ = _
        rw [← hlen]
        simp

theorem st_appV {P : Program} {ops : Array Oper} {Q : Exit → Act → World → Prop} {a : Act} {w : World} {K : Act → World → Prop} {n d : Nat} {L : List (Nat × Value)} {M : Nat → Prop} {w0 : World} {rs rs' : List Res} {α : Type} {E : Enc α} {t e : TypeId} {bytes : Nat} {S S2 : Nat → Prop} {A : Option Addr} {c c2 g : Nat} {xs ys : List α} {x1 x2 : Operand} {ty : TypeId} {pos : String} {af : Array Edge} {gd : Option (Nat × Bool)} (h1E : ∀ w S es x, E.R w S es x → ∀ v ∈ es, v.oneCell' = true) (hE : Env n L a) (hH : Held M w0 rs w) (he : TSl P t e E.size bytes) (is : List Nat) (hn1 : is.Nodup) (his : pick rs is = some (rVec E e S A c xs :: rVec E e S2 (some ⟨g, 0, none⟩) c2 ys :: rs'))
    (hx1 : ev L x1 = some (.slice A xs.length c)) (hx2 : ev L x2 = some (.slice (some ⟨g, 0, none⟩) ys.length c2)) (h63 : xs.length + ys.length ≤ maxLen) (hbytes : (xs.length + ys.length) * bytes ≤ 140737488355328) (hw : Region.wanted ⟨some d, .call { callee := .builtin .append, args := #[x1, x2], argTypes := #[t, t] }, ty, pos, af, gd⟩ (yielded ops a.tmps) = true) (hn : Nat.blt d n = true)
    (k : ∀ A' c' S' a' w', Env n ((d, .slice A' (xs ++ ys).length c') :: L) a' → Held M w0 (rVec E e S' A' c' (xs ++ ys) :: rs') w' → K a' w') : Stp P ops Q ⟨some d, .call { callee := .builtin .append, args := #[x1, x2], argTypes := #[t, t] }, ty, pos, af, gd⟩ a w K := by
  have h := hH.sel is hn1 his
  obtain ⟨css, T, hl, ho, hb, hT, hd, hx⟩ := (h.ok (rVec E e S2 (some ⟨g, 0, none⟩) c2 ys) (by simp) : Vec E e w S2 (.slice (some ⟨g, 0, none⟩) ys.length c2) ys)
  obtain ⟨ho1, ho2⟩ := ho
  have hsep := List.pairwise_cons.1 h.sep
  have hcell : ∀ j u, css.flatten[j]? = some u → w.cell? ((⟨g, 0, none⟩ : Addr).add j) = some u := by
    intro j u hu
    rcases ho2 with ⟨q1, q2⟩ | ⟨g', cap, cur, hv, _, hh, h3, h4, h5, h6⟩
    · simp only [Value.slice.injEq] at q1
      exact absurd q1.1 (by simp)
    · simp only [Value.slice.injEq, Option.some.injEq, Addr.mk.injEq, and_true] at hv
      obtain ⟨rfl, _⟩ := hv
      have hB : Blk w g e cur := hh
      have hj := (List.getElem?_eq_some_iff.1 hu).1
      rw [add_none, Nat.zero_add, hB.cell, ← hu, ← h6]
      have hj' : j < ys.length * E.size := by rw [← ho1]; exact hj
      rw [List.getElem?_take_of_lt hj']
      simp
  obtain ⟨A', c', S', w', e1, e2, e3, e4⟩ := run_append_vec (U := S2) he ty h ⟨g, 0, none⟩ ys c2 css hl hcell (fun es he' => by
      obtain ⟨i, hi, rfl⟩ := List.mem_iff_getElem.1 he'
      obtain ⟨es, h2, h3⟩ := hx i ys[i] (List.getElem?_eq_getElem (by omega))
      rw [List.getElem?_eq_getElem hi] at h2
      rw [Option.some.inj h2]
      exact h1E _ _ _ _ (E.read h3))
    T (fun i b hb => (hT i b hb).1) hd hx (fun b hb => ⟨fun hb' => hsep.1 (rVec E e S2 (some ⟨g, 0, none⟩) c2 ys) (by simp) b hb' hb, (h.rng (rVec E e S2 (some ⟨g, 0, none⟩) c2 ys) (by simp) b hb).2⟩) h63 hbytes
  have h2 : Held M w0 (rVec E e S' A' c' (xs ++ ys) :: rs') w' := h.mut2 e3 (rVec E e S' A' c' (xs ++ ys)) e2 e4
  refine st_val hE hw ?_ rfl hn fun a' hE' => k A' c' S' a' w' hE' h2
  simp only [execOp, resolve, invoke, builtin, Sem.run_bind, Sem.run_pure, Result.andThen_ok, List.map_toArray, List.map_cons, List.map_nil, hE.ev hx1, hE.ev hx2, e1]

/-- A builder in block b, its own blocks in S, holding the bytes l. -/
def BldIn (T e : TypeId) (B b : Nat) (S : Nat → Prop) (l : List UInt8) (w : World) : Prop :=
  Lib.IsBuilderF T e B b (Lib.byteCells l) w ∧ S b ∧ ∀ p v g, w.heap[b]? = some (.cells #[p, v] T (0, 0)) → v.ownBlock = some g → S g

theorem BldIn.loc {T e : TypeId} {B b : Nat} {S : Nat → Prop} {l : List UInt8} {w w' : World} (hs : ∀ k, S k → w'.heap[k]? = w.heap[k]?) (h : BldIn T e B b S l w) : BldIn T e B b S l w' := by
  obtain ⟨h1, h2, h3⟩ := h
  have key : ∀ p, Lib.BuilderAtF T e B b p (Lib.byteCells l) w → Lib.BuilderAtF T e B b p (Lib.byteCells l) w' := by
    rintro p ⟨hB, v, hb, hown, hne⟩
    refine ⟨hB, v, (hs b h2).trans hb, ⟨hown.1, ?_⟩, hne⟩
    rcases hown.2 with hn | ⟨g, cap, cur, fz, rfl, hbg, hg, rest⟩
    · exact .inl hn
    · exact .inr ⟨g, cap, cur, fz, rfl, hbg, (hs g (h3 _ _ g hb (by simp [Value.ownBlock]))).trans hg, rest⟩
  refine ⟨?_, h2, fun p v g hb hv => h3 p v g ((hs b h2).symm.trans hb) hv⟩
  rcases h1 with h | h
  · exact .inl (key _ h)
  · exact .inr (key _ h)

def rBldT (T e : TypeId) (B b : Nat) (S : Nat → Prop) (l : List UInt8) : Res := ⟨S, BldIn T e B b S l, fun _ _ hs h => BldIn.loc hs h⟩

theorem BldIn.mk {T e : TypeId} {B b : Nat} {l : List UInt8} {w : World} (h : Lib.IsBuilderF T e B b (Lib.byteCells l) w) : BldIn T e B b (Iv B w.heap.size) l w := by
  have hb : B ≤ b ∧ b < w.heap.size := by
    rcases h with h | h
    · exact ⟨h.1, h.lt⟩
    · exact ⟨h.1, h.lt⟩
  refine ⟨h, hb, fun p v g hh hv => ?_⟩
  have key : ∀ q, Lib.BuilderAtF T e B b q (Lib.byteCells l) w → Iv B w.heap.size g := by
    rintro q ⟨_, v', hb', hown, _⟩
    rw [hh] at hb'
    simp only [Option.some.injEq, Obj.cells.injEq, and_true] at hb'
    have e2 : v = v' := by
      have := congrArg (fun a : Array Value => a[1]?) hb'
      simpa using this
    subst e2
    exact hown.lt g hv
  rcases h with h | h
  · exact key _ h
  · exact key _ h

theorem Held.bldCall {T e : TypeId} {w0 w w' : World} {b : Nat} {S : Nat → Prop} {l l' : List UInt8} (h : Held Nob w0 [rBldT T e w0.heap.size b S l] w) (hb : Below w0.heap.size w w') (hi : Lib.IsBuilderF T e w0.heap.size b (Lib.byteCells l') w') : ∃ S', Held Nob w0 [rBldT T e w0.heap.size b S' l'] w' := by
  refine ⟨Iv w0.heap.size w'.heap.size, ?_⟩
  have hb2 : Below w0.heap.size w0 w' := h.below.trans hb
  exact ⟨.of_below hb2, by intro r hr; obtain rfl := List.mem_singleton.1 hr; exact BldIn.mk hi, by intro r hr; obtain rfl := List.mem_singleton.1 hr; exact fun k hk => ⟨.inr hk.1, hk.2⟩, List.pairwise_singleton _ _⟩

theorem Held.toBld {T e : TypeId} {w0 w : World} {b : Nat} {rs : List Res} (h : Held Nob w0 (rBlk b T [.pointer none, .slice none 0 0] :: rs) w) : ∃ S, Held Nob w0 [rBldT T e w0.heap.size b S []] w := by
  have hB : Blk w b T #[.pointer none, .slice none 0 0] := h.ok _ List.mem_cons_self
  have hr := h.rng _ (List.mem_cons_self) b rfl
  have hle : w0.heap.size ≤ b := hr.1.resolve_left fun x => x.elim
  have hi : Lib.IsBuilderF T e w0.heap.size b (Lib.byteCells []) w := .inl ⟨hle, _, hB, by simpa [Lib.byteCells] using World.ownsRowF_nil w w0.heap.size e 1, by simp [Value.ownBlock]⟩
  refine ⟨Iv w0.heap.size w.heap.size, ⟨h.chg, ?_, ?_, List.pairwise_singleton _ _⟩⟩
  · intro r hr; obtain rfl := List.mem_singleton.1 hr; exact BldIn.mk hi
  · intro r hr; obtain rfl := List.mem_singleton.1 hr; exact fun k hk => ⟨.inr hk.1, hk.2⟩

theorem Held.isBld {T e : TypeId} {M : Nat → Prop} {w0 w : World} {B b : Nat} {S : Nat → Prop} {l : List UInt8} {rs : List Res} (h : Held M w0 (rBldT T e B b S l :: rs) w) : Lib.IsBuilderF T e B b (Lib.byteCells l) w := (h.ok _ List.mem_cons_self : BldIn T e B b S l w).1

theorem tv_2 : TV Try.prog 2 false [.int .i64 0] := by
  obtain ⟨i, h1, h2, h3⟩ := tv_parts (show (Try.prog.info? 2).map (fun i => (i.zero, i.size)) = some (some (.int .i64 0), 1) from by kernel_rfl)
  exact ⟨⟨_, Try.underlying2, rfl⟩, i, _, h1, h2, h3, rfl⟩

theorem tv_37 : TV Try.prog 37 false [.slice none 0 0] := by
  obtain ⟨i, h1, h2, h3⟩ := tv_parts (show (Try.prog.info? 37).map (fun i => (i.zero, i.size)) = some (some (.slice none 0 0), 1) from by kernel_rfl)
  exact ⟨⟨_, Try.underlying37, rfl⟩, i, _, h1, h2, h3, rfl⟩

theorem tv_53 : TV Try.prog 53 false [.slice none 0 0] := by
  obtain ⟨i, h1, h2, h3⟩ := tv_parts (show (Try.prog.info? 53).map (fun i => (i.zero, i.size)) = some (some (.slice none 0 0), 1) from by kernel_rfl)
  exact ⟨⟨_, Try.underlying53, rfl⟩, i, _, h1, h2, h3, rfl⟩

theorem tv_55 : TV Try.prog 55 true [.int .i64 0, .int .i64 0, .int .i64 0, .slice none 0 0] := by
  obtain ⟨i, h1, h2, h3⟩ := tv_parts (show (Try.prog.info? 55).map (fun i => (i.zero, i.size)) = some (some (.agg #[.int .i64 0, .int .i64 0, .int .i64 0, .slice none 0 0]), 4) from by kernel_rfl)
  exact ⟨⟨_, Try.underlying55, rfl⟩, i, _, h1, h2, h3, rfl⟩

theorem tv_108 : TV Try.prog 108 true [.int .i64 0, .slice none 0 0, .slice none 0 0, .slice none 0 0, .int .i64 0] := by
  obtain ⟨i, h1, h2, h3⟩ := tv_parts (show (Try.prog.info? 108).map (fun i => (i.zero, i.size)) = some (some (.agg #[.int .i64 0, .slice none 0 0, .slice none 0 0, .slice none 0 0, .int .i64 0]), 5) from by kernel_rfl)
  exact ⟨⟨_, Try.underlying108, rfl⟩, i, _, h1, h2, h3, rfl⟩

theorem ts_37 : TSl Try.prog 37 2 1 8 := by
  obtain ⟨i, h1, h2, h3, h4⟩ := ts_parts (show (Try.prog.info? 2).map (fun i => (i.zero, i.size, i.bytes)) = some (some (.int .i64 0), 1, 8) from by kernel_rfl)
  exact ⟨Try.underlying37, i, _, h1, h2, h3, h4, rfl⟩

theorem ts_53 : TSl Try.prog 53 108 5 88 := by
  obtain ⟨i, h1, h2, h3, h4⟩ := ts_parts (show (Try.prog.info? 108).map (fun i => (i.zero, i.size, i.bytes)) = some (some (.agg #[.int .i64 0, .slice none 0 0, .slice none 0 0, .slice none 0 0, .int .i64 0]), 5, 88) from by kernel_rfl)
  exact ⟨Try.underlying53, i, _, h1, h2, h3, h4, rfl⟩

theorem fa_55_3 : ∀ b o w, (Instr.fieldAt 55 (.pointer (some ⟨b, o, none⟩)) 3).run Try.prog w = .ok (.pointer (some ⟨b, o + 3, none⟩)) w := by
  obtain ⟨i, z, h1, _, h3, _⟩ := tv_53.info
  exact fun b o w => fieldAt_of (f := 3) Try.underlying55 rfl h1 (by rw [h3]; decide) b o w

theorem tb_55 : TB Try.prog 55 [.int .i64 0, .int .i64 0, .int .i64 0, .slice none 0 0] := by
  refine ⟨tv_55, _, #[(0, 1), (1, 1), (2, 1), (3, 1)], Try.underlying55, fun w => ?_, fun i hi => ?_⟩
  · obtain ⟨i2, z2, h2, _, s2, _⟩ := tv_2.info; simp only [List.length_cons, List.length_nil] at s2; obtain ⟨i53, z53, h53, _, s53, _⟩ := tv_53.info; simp only [List.length_cons, List.length_nil] at s53
    simp [sizeOf, typeInfo, h2, s2, h53, s53]
  · simp only [List.length_cons, List.length_nil] at hi
    match i, hi with
    | 0, _ => rfl
    | 1, _ => rfl
    | 2, _ => rfl
    | 3, _ => rfl

theorem fa_108_0 : ∀ b o w, (Instr.fieldAt 108 (.pointer (some ⟨b, o, none⟩)) 0).run Try.prog w = .ok (.pointer (some ⟨b, o + 0, none⟩)) w := by
  obtain ⟨i, z, h1, _, h3, _⟩ := tv_2.info
  exact fun b o w => fieldAt_of (f := 0) Try.underlying108 rfl h1 (by rw [h3]; decide) b o w

theorem fa_108_1 : ∀ b o w, (Instr.fieldAt 108 (.pointer (some ⟨b, o, none⟩)) 1).run Try.prog w = .ok (.pointer (some ⟨b, o + 1, none⟩)) w := by
  obtain ⟨i, z, h1, _, h3, _⟩ := tv_37.info
  exact fun b o w => fieldAt_of (f := 1) Try.underlying108 rfl h1 (by rw [h3]; decide) b o w

theorem fa_108_2 : ∀ b o w, (Instr.fieldAt 108 (.pointer (some ⟨b, o, none⟩)) 2).run Try.prog w = .ok (.pointer (some ⟨b, o + 2, none⟩)) w := by
  obtain ⟨i, z, h1, _, h3, _⟩ := tv_37.info
  exact fun b o w => fieldAt_of (f := 2) Try.underlying108 rfl h1 (by rw [h3]; decide) b o w

theorem fa_108_3 : ∀ b o w, (Instr.fieldAt 108 (.pointer (some ⟨b, o, none⟩)) 3).run Try.prog w = .ok (.pointer (some ⟨b, o + 3, none⟩)) w := by
  obtain ⟨i, z, h1, _, h3, _⟩ := tv_37.info
  exact fun b o w => fieldAt_of (f := 3) Try.underlying108 rfl h1 (by rw [h3]; decide) b o w

theorem fa_108_4 : ∀ b o w, (Instr.fieldAt 108 (.pointer (some ⟨b, o, none⟩)) 4).run Try.prog w = .ok (.pointer (some ⟨b, o + 4, none⟩)) w := by
  obtain ⟨i, z, h1, _, h3, _⟩ := tv_2.info
  exact fun b o w => fieldAt_of (f := 4) Try.underlying108 rfl h1 (by rw [h3]; decide) b o w

theorem tb_108 : TB Try.prog 108 [.int .i64 0, .slice none 0 0, .slice none 0 0, .slice none 0 0, .int .i64 0] := by
  refine ⟨tv_108, _, #[(0, 1), (1, 1), (2, 1), (3, 1), (4, 1)], Try.underlying108, fun w => ?_, fun i hi => ?_⟩
  · obtain ⟨i2, z2, h2, _, s2, _⟩ := tv_2.info; simp only [List.length_cons, List.length_nil] at s2; obtain ⟨i37, z37, h37, _, s37, _⟩ := tv_37.info; simp only [List.length_cons, List.length_nil] at s37
    simp [sizeOf, typeInfo, h2, s2, h37, s37]
  · simp only [List.length_cons, List.length_nil] at hi
    match i, hi with
    | 0, _ => rfl
    | 1, _ => rfl
    | 2, _ => rfl
    | 3, _ => rfl
    | 4, _ => rfl

theorem en_25 : ∀ args w, (callFunc 25 args).run Try.prog w = .ok (.enter 25 args) w := enters_of Try.func25 (by kernel_rfl) rfl

theorem en_27 : ∀ args w, (callFunc 27 args).run Try.prog w = .ok (.enter 27 args) w := enters_of Try.func27 (by kernel_rfl) rfl

theorem en_33 : ∀ args w, (callFunc 33 args).run Try.prog w = .ok (.enter 33 args) w := enters_of Try.func33 (by kernel_rfl) rfl

theorem en_34 : ∀ args w, (callFunc 34 args).run Try.prog w = .ok (.enter 34 args) w := enters_of Try.func34 (by kernel_rfl) rfl

theorem en_37 : ∀ args w, (callFunc 37 args).run Try.prog w = .ok (.enter 37 args) w := enters_of Try.func37 (by kernel_rfl) rfl

theorem en_38 : ∀ args w, (callFunc 38 args).run Try.prog w = .ok (.enter 38 args) w := enters_of Try.func38 (by kernel_rfl) rfl

theorem en_39 : ∀ args w, (callFunc 39 args).run Try.prog w = .ok (.enter 39 args) w := enters_of Try.func39 (by kernel_rfl) rfl

theorem en_68 : ∀ args w, (callFunc 68 args).run Try.prog w = .ok (.enter 68 args) w := enters_of Try.func68 (by kernel_rfl) rfl

theorem en_72 : ∀ args w, (callFunc 72 args).run Try.prog w = .ok (.enter 72 args) w := enters_of Try.func72 (by kernel_rfl) rfl

theorem en_75 : ∀ args w, (callFunc 75 args).run Try.prog w = .ok (.enter 75 args) w := enters_of Try.func75 (by kernel_rfl) rfl

theorem en_76 : ∀ args w, (callFunc 76 args).run Try.prog w = .ok (.enter 76 args) w := enters_of Try.func76 (by kernel_rfl) rfl

theorem en_77 : ∀ args w, (callFunc 77 args).run Try.prog w = .ok (.enter 77 args) w := enters_of Try.func77 (by kernel_rfl) rfl

theorem en_78 : ∀ args w, (callFunc 78 args).run Try.prog w = .ok (.enter 78 args) w := enters_of Try.func78 (by kernel_rfl) rfl

theorem en_79 : ∀ args w, (callFunc 79 args).run Try.prog w = .ok (.enter 79 args) w := enters_of Try.func79 (by kernel_rfl) rfl

theorem en_80 : ∀ args w, (callFunc 80 args).run Try.prog w = .ok (.enter 80 args) w := enters_of Try.func80 (by kernel_rfl) rfl

theorem en_81 : ∀ args w, (callFunc 81 args).run Try.prog w = .ok (.enter 81 args) w := enters_of Try.func81 (by kernel_rfl) rfl

theorem en_111 : ∀ args w, (callFunc 111 args).run Try.prog w = .ok (.enter 111 args) w := enters_of Try.func111 (by kernel_rfl) rfl

theorem en_115 : ∀ args w, (callFunc 115 args).run Try.prog w = .ok (.enter 115 args) w := enters_of Try.func115 (by kernel_rfl) rfl

theorem en_119 : ∀ args w, (callFunc 119 args).run Try.prog w = .ok (.enter 119 args) w := enters_of Try.func119 (by kernel_rfl) rfl

theorem en_128 : ∀ args w, (callFunc 128 args).run Try.prog w = .ok (.enter 128 args) w := enters_of Try.func128 (by kernel_rfl) rfl

theorem en_129 : ∀ args w, (callFunc 129 args).run Try.prog w = .ok (.enter 129 args) w := enters_of Try.func129 (by kernel_rfl) rfl

theorem en_132 : ∀ args w, (callFunc 132 args).run Try.prog w = .ok (.enter 132 args) w := enters_of Try.func132 (by kernel_rfl) rfl

theorem en_137 : ∀ args w, (callFunc 137 args).run Try.prog w = .ok (.enter 137 args) w := enters_of Try.func137 (by kernel_rfl) rfl

theorem hmix : Try.prog.follows .mixedOrders = true := by kernel_rfl

theorem held_L_e (A : Option Addr) (c : Nat) (ys : List Int) (k : Int) (z : List Int) (w : World) (h : Sl eInt w (Old w) A c ys) (sz : ys = mk_L z k) (hk : 0 ≤ k) (hk' : k + (ct_L z : Int) ≤ 1000000000000) :
    Calls Try.prog 27 #[.slice A ys.length c, .int .i64 k] w fun e w' => e = .returned (.int .i64 (k + (ct_L z : Int))) ∧ Below w.heap.size w w' := by
  subst sz
  have := held_L_c A c z k w h hk hk'
  rwa [show z.length = (mk_L z k).length from (mkL_len _ _ _ _).symm] at this

def mkR_SMultiRule (xs : List tMultiRule) (k : Int) : Int × List tMultiRule := (k + (ct_SMultiRule xs : Int), mk_SMultiRule xs k)

set_option maxRecDepth 100000 in
set_option maxHeartbeats 4000000 in
theorem mark_SMultiRule_h (M : Nat → Prop) (A0 : Option Addr) (c0 : Nat) (a0 : (List tMultiRule)) (S0 : Nat → Prop) (a1 : Int) (w : World) (HM : Held M w [rSo eMultiRule S0 A0 c0 a0] w) (s0 : 0 ≤ a1) (s1 : a1 + (ct_SMultiRule a0 : Int) ≤ 1000000000000) :
    Calls Try.prog 75 #[.slice A0 a0.length c0, .int .i64 a1] w fun e w' => ∃ (S0' : Nat → Prop), e = .returned (.int .i64 ((mkR_SMultiRule a0 a1).1)) ∧ Held M w [rSo eMultiRule S0' A0 c0 (mkR_SMultiRule a0 a1).2] w' := by
  have HH1 := HM
  have l0 := (HH1.sl (i := 0) rfl).len
  refine enter (n := 48) Try.func75 rfl rfl rfl fun a_2 HE3 => ?_
  refine wp_seq ?_
  refine rg ?_
  refine pl_x HE3 HH1 (wt0 rfl) (x_assign rfl) rfl rfl fun a_4 HE5 => ?_
  refine wpList_nil ?_
  clear a_2 HE3
  refine nrm ?_
  refine wp_seq ?_
  refine wp_seq ?_
  refine rg ?_
  refine pl_x HE5 HH1 (wt0 rfl) (x_assign rfl) rfl rfl fun a_6 HE7 => ?_
  refine wpList_nil ?_
  clear a_4 HE5
  refine nrm ?_
  refine wp_block ?_
  refine lp (fun m a w' => ∃ (i : Nat) (S_0 : Nat → Prop), m = a0.length - i ∧ Env 48 [(1, .int .i64 (a1 + (cntL ct_MultiRule (a0.take i) : Int))), (5, .int .i64 (i : Int)), (0, .slice A0 (a0.length) c0)] a ∧ Held M w [rSo eMultiRule S_0 A0 c0 (mkTo mk_MultiRule ct_MultiRule a0 a1 i)] w' ∧ (i ≤ a0.length)) (a0.length - (0)) ?_ ?_
  · have E21 : mkTo mk_MultiRule ct_MultiRule a0 a1 0 = a0 := by
      exact mkTo_zero _ _ _ _
    exact ⟨0, S0, rfl, HE7.sub ⟨(lkI rfl (by simp [cntL])), (lkI rfl (by first | rfl | omega | (simp []; done))), rfl, trivial⟩, ((HH1.sel [0] (by decide) rfl).to (by first | rfl | (rw [E21]; done) | (rw [E21]; rfl) | (simp only [E21]; done) | (simp only [E21]; rfl) | (rw [E21]; simp only [List.length_set]; done))), (by first | omega | assumption | (simp; done) | simp_all)⟩
  · rintro m a_8 w' ⟨i, S_0, rfl, HE9, HH10, p22_0⟩
    have hl0 : (mkTo mk_MultiRule ct_MultiRule a0 a1 i).length = a0.length := mkTo_len _ _ _ _ _
    refine wp_seq ?_
    refine wp_seq ?_
    refine rg ?_
    refine pl_x HE9 HH10 (wt0 rfl) (x_move rfl) rfl rfl fun a_11 HE12 => ?_
    refine pl_x HE12 HH10 (wt0 rfl) (x_move rfl) rfl rfl fun a_13 HE14 => ?_
    refine pl_x HE14 HH10 (wt0 rfl) (x_len Try.underlying53 rfl) rfl rfl fun a_15 HE16 => ?_
    refine pl_x HE16 HH10 (wt0 rfl) (x_lss rfl rfl) rfl rfl fun a_17 HE18 => ?_
    refine wpList_nil ?_
    clear a_6 HE7 HH1 a_8 HE9 a_11 HE12 a_13 HE14 a_15 HE16
    refine nrm ?_
    refine cnd_d HE18 rfl (fun hc23 => ?_) (fun hc23 => ?_)
    · refine wp_skip ?_
      refine nrm ?_
      refine wp_seq ?_
      refine wp_block ?_
      refine wp_seq ?_
      refine rg ?_
      refine pl_x HE18 HH10 (wt0 rfl) (x_move rfl) rfl rfl fun a_19 HE20 => ?_
      refine pl_x HE20 HH10 (wt0 rfl) (x_move rfl) rfl rfl fun a_21 HE22 => ?_
      refine pl_x HE22 HH10 (wt0 rfl) (x_move rfl) rfl rfl fun a_23 HE24 => ?_
      have ke24 : i < List.length (mkTo mk_MultiRule ct_MultiRule a0 a1 i) := by first | omega | (rw [mkTo_len]; omega)
      have ne24 : i < a0.length := by omega
      obtain ⟨be24, fe24, ese24, Te24, rfl, Re24, Ze24, HH25⟩ := HH10.open ke24
      obtain ⟨e24, xe24⟩ : ∃ x_, x_ = (mkTo mk_MultiRule ct_MultiRule a0 a1 i)[i] := ⟨_, rfl⟩
      rw [← xe24] at Re24
      rw [← xe24] at HH25
      obtain ⟨Ae24_1, ce24_1, Ae24_2, ce24_2, Ae24_3, ce24_3, rfl, ge24_0, ge24_1, ge24_2, ge24_3, ge24_4⟩ := shape_MultiRule Re24
      clear Re24
      have je24_0 := ge24_0; unfold I64 at je24_0
      have je24_4 := ge24_4; unfold I64 at je24_4
      have hxe24 : e24 = a0[i] := by have hq := mkTo_get mk_MultiRule ct_MultiRule a0 a1 i (by omega); rw [List.getElem?_eq_getElem (by rw [mkTo_len]; omega)] at hq; rw [xe24]; exact Option.some.inj hq
      have hc1 := cntL_take ct_MultiRule a0 i (by omega)
      have hc2 : cntL ct_MultiRule (a0.take (i + 1)) ≤ ct_SMultiRule a0 := cntL_le ct_MultiRule a0 (i + 1)
      rw [← hxe24] at hc1
      have hc3 : ct_MultiRule e24 = 1 + ct_L e24.2.1 + ct_L e24.2.2.1 + ct_L e24.2.2.2.1 + 1 := rfl
      have HH26 := HH25.sel [1, 0] (by decide) rfl
      have HH27 := HH26.unF rfl
      obtain ⟨S25, S26, HH28⟩ := HH27.unP rfl
      have HH29 := HH28.sel [1, 0, 2] (by decide) rfl
      obtain ⟨S27, S28, HH30⟩ := HH29.unP rfl
      have HH31 := HH30.sel [1, 0, 2, 3] (by decide) rfl
      obtain ⟨S29, S30, HH32⟩ := HH31.unP rfl
      have HH33 := HH32.sel [1, 0, 2, 3, 4] (by decide) rfl
      have HH34 := HH33.sel [1, 2, 3, 4] (by decide) rfl
      refine pl_x HE24 HH34 (wt0 rfl) (x_indexAddr ts_53 rfl rfl rfl rfl ne24) rfl rfl fun a_35 HE36 => ?_
      refine pl_x HE36 HH34 (wt0 rfl) (x_fieldAddr fa_108_0 rfl) rfl rfl fun a_37 HE38 => ?_
      refine pl fun K_39 hK40 => ?_
      refine st_storeF (j := 0) 3 HE38 HH34 tv_2 rfl rfl rfl rfl rfl rfl (wt0 rfl) fun w' HH41 => hK40 _ _ ?_
      refine wpList_nil ?_
      clear a_17 HE18 a_19 HE20 a_21 HE22 HH10 HH25 HH26 HH27 HH28 HH29 HH30 HH31 HH32 HH33 a_23 HE24 a_35 HE36 HH34 hK40 K_39
      refine nrm ?_
      refine wp_seq ?_
      refine rg ?_
      refine pl_x HE38 HH41 (wt0 rfl) (x_move rfl) rfl rfl fun a_42 HE43 => ?_
      refine pl_x HE43 HH41 (wt0 rfl) (x_add rfl rfl (by exact ⟨by omega, by omega⟩)) rfl rfl fun a_44 HE45 => ?_
      refine pl_x HE45 HH41 (wt0 rfl) (x_assign rfl) rfl rfl fun a_46 HE47 => ?_
      refine wpList_nil ?_
      clear a_37 HE38 a_42 HE43 a_44 HE45
      refine nrm ?_
      refine wp_seq ?_
      refine rg ?_
      refine pl_x HE47 HH41 (wt0 rfl) (x_move rfl) rfl rfl fun a_48 HE49 => ?_
      refine pl_x HE49 HH41 (wt0 rfl) (x_move rfl) rfl rfl fun a_50 HE51 => ?_
      refine pl_x HE51 HH41 (wt0 rfl) (x_indexAddr ts_53 rfl rfl rfl rfl ne24) rfl rfl fun a_52 HE53 => ?_
      refine pl_x HE53 HH41 (wt0 rfl) (x_fieldAddr fa_108_1 rfl) rfl rfl fun a_54 HE55 => ?_
      refine pl_x HE55 HH41 (wt0 rfl) (x_load1 tv_37 rfl (c_foc (E := eMultiRule) (off := fe24) (k := i) (j := 1) 3 rfl rfl)) rfl rfl fun a_56 HE57 => ?_
      refine pl_x HE57 HH41 (wt0 rfl) (x_move rfl) rfl rfl fun a_58 HE59 => ?_
      refine pl fun K_60 hK61 => ?_
      refine st_call HE59 (wt0 rfl) rfl rfl rfl en_25 rfl rfl (mark_L_c _ _ e24.2.1 ((a1 + (cntL ct_MultiRule (a0.take i) : Int)) + 1) _ _ (so_of_o (HH41.get (i := 2) rfl)) (HH41.lt (i := 2) rfl) (by omega) (by omega)) fun e w' hr => ?_
      obtain ⟨rfl, hsr31, hcr31⟩ := hr
      have HH62 := HH41.mut (i := 2) rfl hcr31 (rSo eInt S25 Ae24_1 ce24_1 (mk_L e24.2.1 ((a1 + (cntL ct_MultiRule (a0.take i) : Int)) + 1))) (oSl hsr31) (fun b hb => .inl hb)
      clear hsr31 hcr31
      refine ⟨_, rfl, fun a_63 HE64 => hK61 _ _ ?_⟩
      refine pl_x HE64 HH62 (wt0 rfl) (x_assign rfl) rfl rfl fun a_65 HE66 => ?_
      refine wpList_nil ?_
      clear a_46 HE47 a_48 HE49 a_50 HE51 a_52 HE53 a_54 HE55 a_56 HE57 HH41 a_58 HE59 a_63 HE64 hK61 K_60
      refine nrm ?_
      refine wp_seq ?_
      refine rg ?_
      refine pl_x HE66 HH62 (wt0 rfl) (x_move rfl) rfl rfl fun a_67 HE68 => ?_
      refine pl_x HE68 HH62 (wt0 rfl) (x_move rfl) rfl rfl fun a_69 HE70 => ?_
      refine pl_x HE70 HH62 (wt0 rfl) (x_indexAddr ts_53 rfl rfl rfl rfl ne24) rfl rfl fun a_71 HE72 => ?_
      refine pl_x HE72 HH62 (wt0 rfl) (x_fieldAddr fa_108_2 rfl) rfl rfl fun a_73 HE74 => ?_
      refine pl_x HE74 HH62 (wt0 rfl) (x_load1 tv_37 rfl (c_foc (E := eMultiRule) (off := fe24) (k := i) (j := 2) 3 rfl rfl)) rfl rfl fun a_75 HE76 => ?_
      refine pl_x HE76 HH62 (wt0 rfl) (x_move rfl) rfl rfl fun a_77 HE78 => ?_
      refine pl fun K_79 hK80 => ?_
      refine st_call HE78 (wt0 rfl) rfl rfl rfl en_25 rfl rfl (mark_L_c _ _ e24.2.2.1 (((a1 + (cntL ct_MultiRule (a0.take i) : Int)) + 1) + (ct_L e24.2.1 : Int)) _ _ (so_of_o (HH62.get (i := 1) rfl)) (HH62.lt (i := 1) rfl) (by omega) (by omega)) fun e w' hr => ?_
      obtain ⟨rfl, hsr32, hcr32⟩ := hr
      have HH81 := HH62.mut (i := 1) rfl hcr32 (rSo eInt S27 Ae24_2 ce24_2 (mk_L e24.2.2.1 (((a1 + (cntL ct_MultiRule (a0.take i) : Int)) + 1) + (ct_L e24.2.1 : Int)))) (oSl hsr32) (fun b hb => .inl hb)
      clear hsr32 hcr32
      refine ⟨_, rfl, fun a_82 HE83 => hK80 _ _ ?_⟩
      refine pl_x HE83 HH81 (wt0 rfl) (x_assign rfl) rfl rfl fun a_84 HE85 => ?_
      refine wpList_nil ?_
      clear a_65 HE66 a_67 HE68 a_69 HE70 a_71 HE72 a_73 HE74 a_75 HE76 HH62 a_77 HE78 a_82 HE83 hK80 K_79
      refine nrm ?_
      refine wp_seq ?_
      refine rg ?_
      refine pl_x HE85 HH81 (wt0 rfl) (x_move rfl) rfl rfl fun a_86 HE87 => ?_
      refine pl_x HE87 HH81 (wt0 rfl) (x_move rfl) rfl rfl fun a_88 HE89 => ?_
      refine pl_x HE89 HH81 (wt0 rfl) (x_indexAddr ts_53 rfl rfl rfl rfl ne24) rfl rfl fun a_90 HE91 => ?_
      refine pl_x HE91 HH81 (wt0 rfl) (x_fieldAddr fa_108_3 rfl) rfl rfl fun a_92 HE93 => ?_
      refine pl_x HE93 HH81 (wt0 rfl) (x_load1 tv_37 rfl (c_foc (E := eMultiRule) (off := fe24) (k := i) (j := 3) 3 rfl rfl)) rfl rfl fun a_94 HE95 => ?_
      refine pl_x HE95 HH81 (wt0 rfl) (x_move rfl) rfl rfl fun a_96 HE97 => ?_
      refine pl fun K_98 hK99 => ?_
      refine st_call HE97 (wt0 rfl) rfl rfl rfl en_25 rfl rfl (mark_L_c _ _ e24.2.2.2.1 ((((a1 + (cntL ct_MultiRule (a0.take i) : Int)) + 1) + (ct_L e24.2.1 : Int)) + (ct_L e24.2.2.1 : Int)) _ _ (so_of_o (HH81.get (i := 0) rfl)) (HH81.lt (i := 0) rfl) (by omega) (by omega)) fun e w' hr => ?_
      obtain ⟨rfl, hsr33, hcr33⟩ := hr
      have HH100 := HH81.mut (i := 0) rfl hcr33 (rSo eInt S29 Ae24_3 ce24_3 (mk_L e24.2.2.2.1 ((((a1 + (cntL ct_MultiRule (a0.take i) : Int)) + 1) + (ct_L e24.2.1 : Int)) + (ct_L e24.2.2.1 : Int)))) (oSl hsr33) (fun b hb => .inl hb)
      clear hsr33 hcr33
      refine ⟨_, rfl, fun a_101 HE102 => hK99 _ _ ?_⟩
      refine pl_x HE102 HH100 (wt0 rfl) (x_assign rfl) rfl rfl fun a_103 HE104 => ?_
      refine wpList_nil ?_
      clear a_84 HE85 a_86 HE87 a_88 HE89 a_90 HE91 a_92 HE93 a_94 HE95 HH81 a_96 HE97 a_101 HE102 hK99 K_98
      refine nrm ?_
      refine wp_seq ?_
      refine rg ?_
      refine pl_x HE104 HH100 (wt0 rfl) (x_move rfl) rfl rfl fun a_105 HE106 => ?_
      refine pl_x HE106 HH100 (wt0 rfl) (x_move rfl) rfl rfl fun a_107 HE108 => ?_
      refine pl_x HE108 HH100 (wt0 rfl) (x_move rfl) rfl rfl fun a_109 HE110 => ?_
      refine pl_x HE110 HH100 (wt0 rfl) (x_indexAddr ts_53 rfl rfl rfl rfl ne24) rfl rfl fun a_111 HE112 => ?_
      refine pl_x HE112 HH100 (wt0 rfl) (x_fieldAddr fa_108_4 rfl) rfl rfl fun a_113 HE114 => ?_
      refine pl fun K_115 hK116 => ?_
      refine st_storeF (j := 4) 3 HE114 HH100 tv_2 rfl rfl rfl rfl rfl rfl (wt0 rfl) fun w' HH117 => hK116 _ _ ?_
      refine wpList_nil ?_
      clear a_103 HE104 a_105 HE106 a_107 HE108 a_109 HE110 a_111 HE112 HH100 hK116 K_115
      refine nrm ?_
      refine rg ?_
      refine pl_x HE114 HH117 (wt0 rfl) (x_move rfl) rfl rfl fun a_118 HE119 => ?_
      refine pl_x HE119 HH117 (wt0 rfl) (x_add rfl rfl (by exact ⟨by omega, by omega⟩)) rfl rfl fun a_120 HE121 => ?_
      refine pl_x HE121 HH117 (wt0 rfl) (x_assign rfl) rfl rfl fun a_122 HE123 => ?_
      refine wpList_nil ?_
      clear a_113 HE114 a_118 HE119 a_120 HE121
      refine blk_n ?_
      refine nrm ?_
      refine rg ?_
      refine pl_x HE123 HH117 (wt0 rfl) (x_move rfl) rfl rfl fun a_124 HE125 => ?_
      refine pl_x HE125 HH117 (wt0 rfl) (x_add rfl rfl (by exact ⟨by omega, by omega⟩)) rfl rfl fun a_126 HE127 => ?_
      refine pl_x HE127 HH117 (wt0 rfl) (x_assign rfl) rfl rfl fun a_128 HE129 => ?_
      refine wpList_nil ?_
      clear a_122 HE123 a_124 HE125 a_126 HE127
      have HH130 := HH117.sel [2, 0, 1, 3] (by decide) rfl
      have HH131 := HH130.relen (n := e24.2.1.length) (by first | exact mkL_len _ _ _ _ | (simp; done) | (simp; omega))
      have HH132 := HH131.sel [2, 0, 1, 3] (by decide) rfl
      have HH133 := HH132.relen (n := e24.2.2.1.length) (by first | exact mkL_len _ _ _ _ | (simp; done) | (simp; omega))
      have HH134 := HH133.sel [2, 0, 1, 3] (by decide) rfl
      have HH135 := HH134.relen (n := e24.2.2.2.1.length) (by first | exact mkL_len _ _ _ _ | (simp; done) | (simp; omega))
      have HH136 := HH135.sel [2, 1, 0, 3] (by decide) rfl
      have HH137 := HH136.sel [2, 0, 1, 3] (by decide) rfl
      have HH138 := HH137.pairB (F := eInt) (c2 := [.int .i64 ((((((a1 + (cntL ct_MultiRule (a0.take i) : Int)) + 1) + (ct_L e24.2.1 : Int)) + (ct_L e24.2.2.1 : Int)) + (ct_L e24.2.2.2.1 : Int)))]) (y := (((((a1 + (cntL ct_MultiRule (a0.take i) : Int)) + 1) + (ct_L e24.2.1 : Int)) + (ct_L e24.2.2.1 : Int)) + (ct_L e24.2.2.2.1 : Int))) (oI (by exact ⟨by omega, by omega⟩))
      have HH139 := HH138.sel [2, 0, 1, 3] (by decide) rfl
      have HH140 := HH139.pair
      have HH141 := HH140.sel [1, 0, 2] (by decide) rfl
      have HH142 := HH141.pair
      have HH143 := HH142.pairF (E := eInt) (c1 := [.int .i64 ((a1 + (cntL ct_MultiRule (a0.take i) : Int)))]) (x := (a1 + (cntL ct_MultiRule (a0.take i) : Int))) (oI (by exact ⟨by omega, by omega⟩))
      obtain ⟨S34, HH144⟩ : ∃ S, Held M w (rO eMultiRule S [.int .i64 ((a1 + (cntL ct_MultiRule (a0.take i) : Int))), .slice Ae24_1 (e24.2.1.length) ce24_1, .slice Ae24_2 (e24.2.2.1.length) ce24_2, .slice Ae24_3 (e24.2.2.2.1.length) ce24_3, .int .i64 ((((((a1 + (cntL ct_MultiRule (a0.take i) : Int)) + 1) + (ct_L e24.2.1 : Int)) + (ct_L e24.2.2.1 : Int)) + (ct_L e24.2.2.2.1 : Int)))] ((a1 + (cntL ct_MultiRule (a0.take i) : Int)), (mk_L e24.2.1 ((a1 + (cntL ct_MultiRule (a0.take i) : Int)) + 1)), (mk_L e24.2.2.1 (((a1 + (cntL ct_MultiRule (a0.take i) : Int)) + 1) + (ct_L e24.2.1 : Int))), (mk_L e24.2.2.2.1 ((((a1 + (cntL ct_MultiRule (a0.take i) : Int)) + 1) + (ct_L e24.2.1 : Int)) + (ct_L e24.2.2.1 : Int))), (((((a1 + (cntL ct_MultiRule (a0.take i) : Int)) + 1) + (ct_L e24.2.1 : Int)) + (ct_L e24.2.2.1 : Int)) + (ct_L e24.2.2.2.1 : Int))) :: _) _ := ⟨_, HH143⟩
      have HH145 := HH144.sel [1, 0] (by decide) rfl
      have HH146 := HH145.shut
      obtain ⟨S35, HH147⟩ : ∃ S, Held M w (rSo eMultiRule S (some ⟨be24, fe24, none⟩) c0 ((mkTo mk_MultiRule ct_MultiRule a0 a1 i).set i ((a1 + (cntL ct_MultiRule (a0.take i) : Int)), (mk_L e24.2.1 ((a1 + (cntL ct_MultiRule (a0.take i) : Int)) + 1)), (mk_L e24.2.2.1 (((a1 + (cntL ct_MultiRule (a0.take i) : Int)) + 1) + (ct_L e24.2.1 : Int))), (mk_L e24.2.2.2.1 ((((a1 + (cntL ct_MultiRule (a0.take i) : Int)) + 1) + (ct_L e24.2.1 : Int)) + (ct_L e24.2.2.1 : Int))), (((((a1 + (cntL ct_MultiRule (a0.take i) : Int)) + 1) + (ct_L e24.2.1 : Int)) + (ct_L e24.2.2.1 : Int)) + (ct_L e24.2.2.2.1 : Int)))) :: _) _ := ⟨_, HH146⟩
      have E36 : mkTo mk_MultiRule ct_MultiRule a0 a1 (i + 1) = ((mkTo mk_MultiRule ct_MultiRule a0 a1 i).set i ((a1 + (cntL ct_MultiRule (a0.take i) : Int)), (mk_L e24.2.1 ((a1 + (cntL ct_MultiRule (a0.take i) : Int)) + 1)), (mk_L e24.2.2.1 (((a1 + (cntL ct_MultiRule (a0.take i) : Int)) + 1) + (ct_L e24.2.1 : Int))), (mk_L e24.2.2.2.1 ((((a1 + (cntL ct_MultiRule (a0.take i) : Int)) + 1) + (ct_L e24.2.1 : Int)) + (ct_L e24.2.2.1 : Int))), (((((a1 + (cntL ct_MultiRule (a0.take i) : Int)) + 1) + (ct_L e24.2.1 : Int)) + (ct_L e24.2.2.1 : Int)) + (ct_L e24.2.2.2.1 : Int)))) := by
        rw [← mkTo_step mk_MultiRule ct_MultiRule a0 a1 i (by omega), ← hxe24]; rfl
      exact nrm ⟨a0.length - (i + 1), (by omega), i + 1, S35, rfl, HE129.sub ⟨(lkI rfl (by omega)), (lkI rfl (by first | rfl | omega | (simp [p22_0, hc23, xe24]; done))), rfl, trivial⟩, ((HH147.sel [0] (by decide) rfl).to (by first | rfl | (rw [E36]; done) | (rw [E36]; rfl) | (simp only [E36]; done) | (simp only [E36]; rfl) | (rw [E36]; simp only [List.length_set]; done))), (by first | omega | assumption | (simp; done) | simp_all)⟩
    · refine wp_exit ?_
      refine (thn_exit (thn_exit (blk_hit ?_)))
      refine nrm ?_
      refine wp_seq ?_
      refine rg ?_
      refine pl_x HE18 HH10 (wt0 rfl) (x_move rfl) rfl rfl fun a_148 HE149 => ?_
      refine pl_x HE149 HH10 (wt0 rfl) (x_assign rfl) rfl rfl fun a_150 HE151 => ?_
      refine wpList_nil ?_
      clear a_17 HE18 a_148 HE149
      refine nrm ?_
      refine wp_ret ?_
      refine ret1 HE151 rfl (rv_tmp rfl) ?_
      have hF : (mkR_SMultiRule a0 a1) = ((a1 + (cntL ct_MultiRule (a0.take i) : Int)), mkTo mk_MultiRule ct_MultiRule a0 a1 i) := by
        unfold mkR_SMultiRule ct_SMultiRule mk_SMultiRule; rw [show i = a0.length from by omega, mkTo_end, List.take_length]
      exact ⟨_, by first | (rw [hF] <;> rfl) | rfl | (rw [hF]; simp only [Ending.returned.injEq, Value.slice.injEq, true_and, and_true]; first | omega | (simp; done)) | (rw [hF]; simp; omega), by rw [hF]; exact HH10.sel [0] (by decide) rfl⟩

set_option maxRecDepth 100000 in
set_option maxHeartbeats 4000000 in
theorem held_SMultiRule_e (A0 : Option Addr) (c0 : Nat) (a0 : (List tMultiRule)) (a1 : Int) (z : List tMultiRule) (w : World) (h0 : Sl eMultiRule w (Old w) A0 c0 a0) (sz : a0 = mk_SMultiRule z a1) (s0 : 0 ≤ a1) (s1 : a1 + (ct_SMultiRule z : Int) ≤ 1000000000000) :
    Calls Try.prog 81 #[.slice A0 a0.length c0, .int .i64 a1] w fun e w' => e = .returned (.int .i64 (a1 + (ct_SMultiRule z : Int))) ∧ Below w.heap.size w w' := by
  have l0 := h0.len
  have hz0 : a0.length = z.length := by rw [sz]; exact mkL_len _ _ _ _
  have HH1 := Held.start Nob w
  refine enter (n := 58) Try.func81 rfl rfl rfl fun a_2 HE3 => ?_
  refine wp_seq ?_
  refine rg ?_
  refine pl_x HE3 HH1 (wt0 rfl) (x_assign rfl) rfl rfl fun a_4 HE5 => ?_
  refine wpList_nil ?_
  clear a_2 HE3
  refine nrm ?_
  refine wp_seq ?_
  refine wp_seq ?_
  refine rg ?_
  refine pl_x HE5 HH1 (wt0 rfl) (x_assign rfl) rfl rfl fun a_6 HE7 => ?_
  refine wpList_nil ?_
  clear a_4 HE5
  refine nrm ?_
  refine wp_block ?_
  refine lp (fun m a w' => ∃ (i : Nat), m = a0.length - i ∧ Env 58 [(1, .int .i64 (a1 + (cntL ct_MultiRule (z.take i) : Int))), (5, .int .i64 (i : Int)), (0, .slice A0 (a0.length) c0)] a ∧ Held Nob w [] w' ∧ (i ≤ a0.length)) (a0.length - (0)) ?_ ?_
  · exact ⟨0, rfl, HE7.sub ⟨(lkI rfl (by simp [cntL])), (lkI rfl (by first | rfl | omega | (simp []; done))), rfl, trivial⟩, (HH1.sel [] (by decide) rfl), (by first | omega | assumption | (simp; done) | simp_all)⟩
  · rintro m a_8 w' ⟨i, rfl, HE9, HH10, p21_0⟩
    refine wp_seq ?_
    refine wp_seq ?_
    refine rg ?_
    refine pl_x HE9 HH10 (wt0 rfl) (x_move rfl) rfl rfl fun a_11 HE12 => ?_
    refine pl_x HE12 HH10 (wt0 rfl) (x_move rfl) rfl rfl fun a_13 HE14 => ?_
    refine pl_x HE14 HH10 (wt0 rfl) (x_len Try.underlying53 rfl) rfl rfl fun a_15 HE16 => ?_
    refine pl_x HE16 HH10 (wt0 rfl) (x_lss rfl rfl) rfl rfl fun a_17 HE18 => ?_
    refine wpList_nil ?_
    clear a_6 HE7 HH1 a_8 HE9 a_11 HE12 a_13 HE14 a_15 HE16
    refine nrm ?_
    refine cnd_d HE18 rfl (fun hc22 => ?_) (fun hc22 => ?_)
    · refine wp_skip ?_
      refine nrm ?_
      refine wp_seq ?_
      refine wp_block ?_
      refine wp_seq ?_
      refine wp_seq ?_
      refine rg ?_
      refine pl_x HE18 HH10 (wt0 rfl) (x_move rfl) rfl rfl fun a_19 HE20 => ?_
      refine pl_x HE20 HH10 (wt0 rfl) (x_move rfl) rfl rfl fun a_21 HE22 => ?_
      have ke23 : i < a0.length := by omega
      obtain ⟨be23, fe23, ese23, Ae23, Re23, De23⟩ := el_old h0 ke23
      obtain ⟨e23, xe23⟩ : ∃ x_, x_ = a0[i] := ⟨_, rfl⟩
      rw [← xe23] at Re23
      have Qe23 := Re23
      obtain ⟨Ae23_1, ce23_1, Ae23_2, ce23_2, Ae23_3, ce23_3, rfl, ge23_0, ge23_1, ge23_2, ge23_3, ge23_4⟩ := shape_MultiRule Re23
      have je23_0 := ge23_0; unfold I64 at je23_0
      have le23_1 := ge23_1.len
      have le23_2 := ge23_2.len
      have le23_3 := ge23_3.len
      have je23_4 := ge23_4; unfold I64 at je23_4
      obtain ⟨ze23, hze23⟩ : ∃ y, y = z[i]'(by omega) := ⟨_, rfl⟩
      have hxe23 : e23 = mk_MultiRule ze23 (a1 + (cntL ct_MultiRule (z.take i) : Int)) := by rw [xe23, hze23]; have hq := mkL_get mk_MultiRule ct_MultiRule z a1 i (by omega); have hr : a0[i]? = some _ := (by rw [sz]; exact hq); rw [List.getElem?_eq_getElem (by omega)] at hr; exact Option.some.inj hr
      have hc1 := cntL_take ct_MultiRule z i (by omega)
      have hc2 : cntL ct_MultiRule (z.take (i + 1)) ≤ ct_SMultiRule z := cntL_le ct_MultiRule z (i + 1)
      rw [← hze23] at hc1
      have hc3 : ct_MultiRule ze23 = 1 + ct_L ze23.2.1 + ct_L ze23.2.2.1 + ct_L ze23.2.2.2.1 + 1 := rfl
      have hi0e23 : e23.1 = (a1 + (cntL ct_MultiRule (z.take i) : Int)) := by rw [hxe23]; rfl
      have hi4e23 : e23.2.2.2.2 = (a1 + (cntL ct_MultiRule (z.take i) : Int)) + 1 + ((ct_L ze23.2.1 : Nat) : Int) + ((ct_L ze23.2.2.1 : Nat) : Int) + ((ct_L ze23.2.2.2.1 : Nat) : Int) := by rw [hxe23]; rfl
      refine pl_x HE22 HH10 (wt0 rfl) (x_indexAddr ts_53 rfl rfl Ae23 rfl ke23) rfl rfl fun a_23 HE24 => ?_
      refine pl_x HE24 HH10 (wt0 rfl) (x_fieldAddr fa_108_0 rfl) rfl rfl fun a_25 HE26 => ?_
      refine pl_x HE26 HH10 (wt0 rfl) (x_load1 tv_2 rfl (c_old (De23 0 _ rfl))) rfl rfl fun a_27 HE28 => ?_
      refine pl_x HE28 HH10 (wt0 rfl) (x_move rfl) rfl rfl fun a_29 HE30 => ?_
      refine pl_x HE30 HH10 (wt0 rfl) (x_neq rfl rfl) rfl rfl fun a_31 HE32 => ?_
      refine wpList_nil ?_
      clear a_17 HE18 a_19 HE20 a_21 HE22 a_23 HE24 a_25 HE26 a_27 HE28 a_29 HE30
      refine nrm ?_
      refine cnd_ne HE32 rfl (fun hc24 => ?_) (fun hc24 => ?_)
      · refine wp_seq ?_
        refine rg ?_
        refine pl_x HE32 HH10 (wt0 rfl) (x_assign rfl) rfl rfl fun a_33 HE34 => ?_
        refine wpList_nil ?_
        clear a_31 HE32
        refine nrm ?_
        refine wp_ret ?_
        refine (thn_ret (blk_ret (thn_ret (thn_ret (blk_ret (thn_ret ?_))))))
        refine ret1 HE34 rfl (rv_tmp rfl) ?_
        have hF : (a1 + (ct_SMultiRule z : Int)) = -1 := by
          first | (exfalso; omega) | (rw [show i = z.length from by omega, List.take_length]; rfl)
        exact ⟨by first | (rw [hF] <;> rfl) | rfl | (rw [hF]; simp only [Ending.returned.injEq, Value.slice.injEq, true_and, and_true]; first | omega | (simp; done)) | (rw [hF]; simp; omega), HH10.below⟩
      · refine wp_skip ?_
        refine nrm ?_
        refine wp_seq ?_
        refine rg ?_
        refine pl_x HE32 HH10 (wt0 rfl) (x_move rfl) rfl rfl fun a_35 HE36 => ?_
        refine pl_x HE36 HH10 (wt0 rfl) (x_add rfl rfl (by exact ⟨by omega, by omega⟩)) rfl rfl fun a_37 HE38 => ?_
        refine pl_x HE38 HH10 (wt0 rfl) (x_assign rfl) rfl rfl fun a_39 HE40 => ?_
        refine wpList_nil ?_
        clear a_31 HE32 a_35 HE36 a_37 HE38
        refine nrm ?_
        refine wp_seq ?_
        refine rg ?_
        refine pl_x HE40 HH10 (wt0 rfl) (x_move rfl) rfl rfl fun a_41 HE42 => ?_
        refine pl_x HE42 HH10 (wt0 rfl) (x_move rfl) rfl rfl fun a_43 HE44 => ?_
        refine pl_x HE44 HH10 (wt0 rfl) (x_indexAddr ts_53 rfl rfl Ae23 rfl ke23) rfl rfl fun a_45 HE46 => ?_
        refine pl_x HE46 HH10 (wt0 rfl) (x_fieldAddr fa_108_1 rfl) rfl rfl fun a_47 HE48 => ?_
        refine pl_x HE48 HH10 (wt0 rfl) (x_load1 tv_37 rfl (c_old (De23 1 _ rfl))) rfl rfl fun a_49 HE50 => ?_
        refine pl_x HE50 HH10 (wt0 rfl) (x_move rfl) rfl rfl fun a_51 HE52 => ?_
        refine pl fun K_53 hK54 => ?_
        refine st_call HE52 (wt0 rfl) rfl rfl rfl en_27 rfl rfl (held_L_e _ _ e23.2.1 ((a1 + (cntL ct_MultiRule (z.take i) : Int)) + 1) ze23.2.1 _ (HH10.old ge23_1) (by rw [hxe23]; rfl) (by omega) (by omega)) fun e w' hr => ?_
        obtain ⟨rfl, hbr25⟩ := hr
        have HH55 := HH10.on hbr25
        clear hbr25
        refine ⟨_, rfl, fun a_56 HE57 => hK54 _ _ ?_⟩
        refine pl_x HE57 HH55 (wt0 rfl) (x_assign rfl) rfl rfl fun a_58 HE59 => ?_
        refine wpList_nil ?_
        clear a_39 HE40 a_41 HE42 a_43 HE44 a_45 HE46 a_47 HE48 a_49 HE50 HH10 a_51 HE52 a_56 HE57 hK54 K_53
        refine nrm ?_
        refine wp_seq ?_
        refine wp_seq ?_
        refine rg ?_
        refine pl_x HE59 HH55 (wt0 rfl) (x_move rfl) rfl rfl fun a_60 HE61 => ?_
        refine pl_x HE61 HH55 (wt0 rfl) (x_lss rfl rfl) rfl rfl fun a_62 HE63 => ?_
        refine wpList_nil ?_
        clear a_58 HE59 a_60 HE61
        refine nrm ?_
        refine cnd_d HE63 rfl (fun hc26 => ?_) (fun hc26 => ?_)
        · refine wp_seq ?_
          refine rg ?_
          refine pl_x HE63 HH55 (wt0 rfl) (x_assign rfl) rfl rfl fun a_64 HE65 => ?_
          refine wpList_nil ?_
          clear a_62 HE63
          refine nrm ?_
          refine wp_ret ?_
          refine (thn_ret (blk_ret (thn_ret (thn_ret (blk_ret (thn_ret ?_))))))
          refine ret1 HE65 rfl (rv_tmp rfl) ?_
          have hF : (a1 + (ct_SMultiRule z : Int)) = -1 := by
            first | (exfalso; omega) | (rw [show i = z.length from by omega, List.take_length]; rfl)
          exact ⟨by first | (rw [hF] <;> rfl) | rfl | (rw [hF]; simp only [Ending.returned.injEq, Value.slice.injEq, true_and, and_true]; first | omega | (simp; done)) | (rw [hF]; simp; omega), HH55.below⟩
        · refine wp_skip ?_
          refine nrm ?_
          refine wp_seq ?_
          refine rg ?_
          refine pl_x HE63 HH55 (wt0 rfl) (x_move rfl) rfl rfl fun a_66 HE67 => ?_
          refine pl_x HE67 HH55 (wt0 rfl) (x_move rfl) rfl rfl fun a_68 HE69 => ?_
          refine pl_x HE69 HH55 (wt0 rfl) (x_indexAddr ts_53 rfl rfl Ae23 rfl ke23) rfl rfl fun a_70 HE71 => ?_
          refine pl_x HE71 HH55 (wt0 rfl) (x_fieldAddr fa_108_2 rfl) rfl rfl fun a_72 HE73 => ?_
          refine pl_x HE73 HH55 (wt0 rfl) (x_load1 tv_37 rfl (c_old (De23 2 _ rfl))) rfl rfl fun a_74 HE75 => ?_
          refine pl_x HE75 HH55 (wt0 rfl) (x_move rfl) rfl rfl fun a_76 HE77 => ?_
          refine pl fun K_78 hK79 => ?_
          refine st_call HE77 (wt0 rfl) rfl rfl rfl en_27 rfl rfl (held_L_e _ _ e23.2.2.1 (((a1 + (cntL ct_MultiRule (z.take i) : Int)) + 1) + (ct_L ze23.2.1 : Int)) ze23.2.2.1 _ (HH55.old ge23_2) (by rw [hxe23]; rfl) (by omega) (by omega)) fun e w' hr => ?_
          obtain ⟨rfl, hbr27⟩ := hr
          have HH80 := HH55.on hbr27
          clear hbr27
          refine ⟨_, rfl, fun a_81 HE82 => hK79 _ _ ?_⟩
          refine pl_x HE82 HH80 (wt0 rfl) (x_assign rfl) rfl rfl fun a_83 HE84 => ?_
          refine wpList_nil ?_
          clear a_62 HE63 a_66 HE67 a_68 HE69 a_70 HE71 a_72 HE73 a_74 HE75 HH55 a_76 HE77 a_81 HE82 hK79 K_78
          refine nrm ?_
          refine wp_seq ?_
          refine wp_seq ?_
          refine rg ?_
          refine pl_x HE84 HH80 (wt0 rfl) (x_move rfl) rfl rfl fun a_85 HE86 => ?_
          refine pl_x HE86 HH80 (wt0 rfl) (x_lss rfl rfl) rfl rfl fun a_87 HE88 => ?_
          refine wpList_nil ?_
          clear a_83 HE84 a_85 HE86
          refine nrm ?_
          refine cnd_d HE88 rfl (fun hc28 => ?_) (fun hc28 => ?_)
          · refine wp_seq ?_
            refine rg ?_
            refine pl_x HE88 HH80 (wt0 rfl) (x_assign rfl) rfl rfl fun a_89 HE90 => ?_
            refine wpList_nil ?_
            clear a_87 HE88
            refine nrm ?_
            refine wp_ret ?_
            refine (thn_ret (blk_ret (thn_ret (thn_ret (blk_ret (thn_ret ?_))))))
            refine ret1 HE90 rfl (rv_tmp rfl) ?_
            have hF : (a1 + (ct_SMultiRule z : Int)) = -1 := by
              first | (exfalso; omega) | (rw [show i = z.length from by omega, List.take_length]; rfl)
            exact ⟨by first | (rw [hF] <;> rfl) | rfl | (rw [hF]; simp only [Ending.returned.injEq, Value.slice.injEq, true_and, and_true]; first | omega | (simp; done)) | (rw [hF]; simp; omega), HH80.below⟩
          · refine wp_skip ?_
            refine nrm ?_
            refine wp_seq ?_
            refine rg ?_
            refine pl_x HE88 HH80 (wt0 rfl) (x_move rfl) rfl rfl fun a_91 HE92 => ?_
            refine pl_x HE92 HH80 (wt0 rfl) (x_move rfl) rfl rfl fun a_93 HE94 => ?_
            refine pl_x HE94 HH80 (wt0 rfl) (x_indexAddr ts_53 rfl rfl Ae23 rfl ke23) rfl rfl fun a_95 HE96 => ?_
            refine pl_x HE96 HH80 (wt0 rfl) (x_fieldAddr fa_108_3 rfl) rfl rfl fun a_97 HE98 => ?_
            refine pl_x HE98 HH80 (wt0 rfl) (x_load1 tv_37 rfl (c_old (De23 3 _ rfl))) rfl rfl fun a_99 HE100 => ?_
            refine pl_x HE100 HH80 (wt0 rfl) (x_move rfl) rfl rfl fun a_101 HE102 => ?_
            refine pl fun K_103 hK104 => ?_
            refine st_call HE102 (wt0 rfl) rfl rfl rfl en_27 rfl rfl (held_L_e _ _ e23.2.2.2.1 ((((a1 + (cntL ct_MultiRule (z.take i) : Int)) + 1) + (ct_L ze23.2.1 : Int)) + (ct_L ze23.2.2.1 : Int)) ze23.2.2.2.1 _ (HH80.old ge23_3) (by rw [hxe23]; rfl) (by omega) (by omega)) fun e w' hr => ?_
            obtain ⟨rfl, hbr29⟩ := hr
            have HH105 := HH80.on hbr29
            clear hbr29
            refine ⟨_, rfl, fun a_106 HE107 => hK104 _ _ ?_⟩
            refine pl_x HE107 HH105 (wt0 rfl) (x_assign rfl) rfl rfl fun a_108 HE109 => ?_
            refine wpList_nil ?_
            clear a_87 HE88 a_91 HE92 a_93 HE94 a_95 HE96 a_97 HE98 a_99 HE100 HH80 a_101 HE102 a_106 HE107 hK104 K_103
            refine nrm ?_
            refine wp_seq ?_
            refine wp_seq ?_
            refine rg ?_
            refine pl_x HE109 HH105 (wt0 rfl) (x_move rfl) rfl rfl fun a_110 HE111 => ?_
            refine pl_x HE111 HH105 (wt0 rfl) (x_lss rfl rfl) rfl rfl fun a_112 HE113 => ?_
            refine wpList_nil ?_
            clear a_108 HE109 a_110 HE111
            refine nrm ?_
            refine cnd_d HE113 rfl (fun hc30 => ?_) (fun hc30 => ?_)
            · refine wp_seq ?_
              refine rg ?_
              refine pl_x HE113 HH105 (wt0 rfl) (x_assign rfl) rfl rfl fun a_114 HE115 => ?_
              refine wpList_nil ?_
              clear a_112 HE113
              refine nrm ?_
              refine wp_ret ?_
              refine (thn_ret (blk_ret (thn_ret (thn_ret (blk_ret (thn_ret ?_))))))
              refine ret1 HE115 rfl (rv_tmp rfl) ?_
              have hF : (a1 + (ct_SMultiRule z : Int)) = -1 := by
                first | (exfalso; omega) | (rw [show i = z.length from by omega, List.take_length]; rfl)
              exact ⟨by first | (rw [hF] <;> rfl) | rfl | (rw [hF]; simp only [Ending.returned.injEq, Value.slice.injEq, true_and, and_true]; first | omega | (simp; done)) | (rw [hF]; simp; omega), HH105.below⟩
            · refine wp_skip ?_
              refine nrm ?_
              refine wp_seq ?_
              refine wp_seq ?_
              refine rg ?_
              refine pl_x HE113 HH105 (wt0 rfl) (x_move rfl) rfl rfl fun a_116 HE117 => ?_
              refine pl_x HE117 HH105 (wt0 rfl) (x_move rfl) rfl rfl fun a_118 HE119 => ?_
              refine pl_x HE119 HH105 (wt0 rfl) (x_indexAddr ts_53 rfl rfl Ae23 rfl ke23) rfl rfl fun a_120 HE121 => ?_
              refine pl_x HE121 HH105 (wt0 rfl) (x_fieldAddr fa_108_4 rfl) rfl rfl fun a_122 HE123 => ?_
              refine pl_x HE123 HH105 (wt0 rfl) (x_load1 tv_2 rfl (c_old (De23 4 _ rfl))) rfl rfl fun a_124 HE125 => ?_
              refine pl_x HE125 HH105 (wt0 rfl) (x_move rfl) rfl rfl fun a_126 HE127 => ?_
              refine pl_x HE127 HH105 (wt0 rfl) (x_neq rfl rfl) rfl rfl fun a_128 HE129 => ?_
              refine wpList_nil ?_
              clear a_112 HE113 a_116 HE117 a_118 HE119 a_120 HE121 a_122 HE123 a_124 HE125 a_126 HE127
              refine nrm ?_
              refine cnd_ne HE129 rfl (fun hc31 => ?_) (fun hc31 => ?_)
              · refine wp_seq ?_
                refine rg ?_
                refine pl_x HE129 HH105 (wt0 rfl) (x_assign rfl) rfl rfl fun a_130 HE131 => ?_
                refine wpList_nil ?_
                clear a_128 HE129
                refine nrm ?_
                refine wp_ret ?_
                refine (thn_ret (blk_ret (thn_ret (thn_ret (blk_ret (thn_ret ?_))))))
                refine ret1 HE131 rfl (rv_tmp rfl) ?_
                have hF : (a1 + (ct_SMultiRule z : Int)) = -1 := by
                  first | (exfalso; omega) | (rw [show i = z.length from by omega, List.take_length]; rfl)
                exact ⟨by first | (rw [hF] <;> rfl) | rfl | (rw [hF]; simp only [Ending.returned.injEq, Value.slice.injEq, true_and, and_true]; first | omega | (simp; done)) | (rw [hF]; simp; omega), HH105.below⟩
              · refine wp_skip ?_
                refine nrm ?_
                refine rg ?_
                refine pl_x HE129 HH105 (wt0 rfl) (x_move rfl) rfl rfl fun a_132 HE133 => ?_
                refine pl_x HE133 HH105 (wt0 rfl) (x_add rfl rfl (by exact ⟨by omega, by omega⟩)) rfl rfl fun a_134 HE135 => ?_
                refine pl_x HE135 HH105 (wt0 rfl) (x_assign rfl) rfl rfl fun a_136 HE137 => ?_
                refine wpList_nil ?_
                clear a_128 HE129 a_132 HE133 a_134 HE135
                refine blk_n ?_
                refine nrm ?_
                refine rg ?_
                refine pl_x HE137 HH105 (wt0 rfl) (x_move rfl) rfl rfl fun a_138 HE139 => ?_
                refine pl_x HE139 HH105 (wt0 rfl) (x_add rfl rfl (by exact ⟨by omega, by omega⟩)) rfl rfl fun a_140 HE141 => ?_
                refine pl_x HE141 HH105 (wt0 rfl) (x_assign rfl) rfl rfl fun a_142 HE143 => ?_
                refine wpList_nil ?_
                clear a_136 HE137 a_138 HE139 a_140 HE141
                exact nrm ⟨a0.length - (i + 1), (by omega), i + 1, rfl, HE143.sub ⟨(lkI rfl (by omega)), (lkI rfl (by first | rfl | omega | (simp [p21_0, hc22, xe23, hc24, hc26, hc28, hc30, hc31]; done))), rfl, trivial⟩, (HH105.sel [] (by decide) rfl), (by first | omega | assumption | (simp; done) | simp_all)⟩
    · refine wp_exit ?_
      refine (thn_exit (thn_exit (blk_hit ?_)))
      refine nrm ?_
      refine wp_seq ?_
      refine rg ?_
      refine pl_x HE18 HH10 (wt0 rfl) (x_move rfl) rfl rfl fun a_144 HE145 => ?_
      refine pl_x HE145 HH10 (wt0 rfl) (x_assign rfl) rfl rfl fun a_146 HE147 => ?_
      refine wpList_nil ?_
      clear a_17 HE18 a_144 HE145
      refine nrm ?_
      refine wp_ret ?_
      refine ret1 HE147 rfl (rv_tmp rfl) ?_
      have hF : (a1 + (ct_SMultiRule z : Int)) = (a1 + (cntL ct_MultiRule (z.take i) : Int)) := by
        first | (exfalso; omega) | (rw [show i = z.length from by omega, List.take_length]; rfl)
      exact ⟨by first | (rw [hF] <;> rfl) | rfl | (rw [hF]; simp only [Ending.returned.injEq, Value.slice.injEq, true_and, and_true]; first | omega | (simp; done)) | (rw [hF]; simp; omega), HH10.below⟩

def mkR_Multi (x : tMulti) (k : Int) : Int × tMulti := (k + (cv_Multi x : Int), mv_Multi x k)

set_option maxRecDepth 100000 in
set_option maxHeartbeats 4000000 in
theorem mark_Multi_h (M : Nat → Prop) (es0 : List Value) (a0 : tMulti) (S0 : Nat → Prop) (a1 : Int) (w : World) (HM : Held M w [rO eMulti S0 es0 a0] w) (s0 : 0 ≤ a1) (s1 : a1 + (cv_Multi a0 : Int) ≤ 1000000000000) :
    Calls Try.prog 34 #[.agg es0.toArray, .int .i64 a1] w fun e w' => ∃ (S0' : Nat → Prop), e = .returned (.int .i64 ((mkR_Multi a0 a1).1)) ∧ Held M w [rO eMulti S0' es0 (mkR_Multi a0 a1).2] w' := by
  have HH1 := HM
  have R0 := HH1.rd (i := 0) rfl
  obtain ⟨Az0_3, cz0_3, rfl, gz0_0, gz0_1, gz0_2, gz0_3⟩ := shape_Multi R0
  have jz0_0 := gz0_0; unfold I64 at jz0_0
  have jz0_1 := gz0_1; unfold I64 at jz0_1
  have jz0_2 := gz0_2; unfold I64 at jz0_2
  have lz0_3 := gz0_3.len
  clear R0
  have HH2 := HH1.unF rfl
  have HH3 := HH2.unF rfl
  have HH4 := HH3.unF rfl
  have hc0 : cv_Multi a0 = ct_SMultiRule a0.2.2.2 := rfl
  refine enter (n := 10) Try.func34 rfl rfl rfl fun a_5 HE6 => ?_
  refine wp_seq ?_
  refine rg ?_
  refine pl fun K_7 hK8 => ?_
  refine st_box (cs := [.int .i64 (a0.1), .int .i64 (a0.2.1), .int .i64 (a0.2.2.1), .slice Az0_3 (a0.2.2.2.length) cz0_3]) HE6 HH4 rfl rfl (wt0 rfl) rfl fun q21 a_9 w' HE10 HH11 => hK8 _ _ ?_
  refine pl_x HE10 HH11 (wt0 rfl) (x_assign rfl) rfl rfl fun a_12 HE13 => ?_
  refine wpList_nil ?_
  clear HH1 HH2 HH3 a_5 HE6 HH4 a_9 HE10 hK8 K_7
  refine nrm ?_
  refine wp_seq ?_
  refine rg ?_
  refine pl_x HE13 HH11 (wt0 rfl) (x_fieldAddr fa_55_3 rfl) rfl rfl fun a_14 HE15 => ?_
  refine pl_x HE15 HH11 (wt0 rfl) (x_load1 tv_53 rfl (c_blk 0 rfl rfl)) rfl rfl fun a_16 HE17 => ?_
  refine pl_x HE17 HH11 (wt0 rfl) (x_move rfl) rfl rfl fun a_18 HE19 => ?_
  refine pl fun K_20 hK21 => ?_
  have HH22 := HH11.sel [1, 0] (by decide) rfl
  have HH23 : Held M w ([rSo eMultiRule S0 Az0_3 cz0_3 a0.2.2.2] ++ [rBlk q21 55 [.int .i64 (a0.1), .int .i64 (a0.2.1), .int .i64 (a0.2.2.1), .slice Az0_3 (a0.2.2.2.length) cz0_3]]) _ := HH22
  refine st_call HE19 (wt0 rfl) rfl rfl rfl en_75 rfl rfl (mark_SMultiRule_h (Foot [rSo eMultiRule S0 Az0_3 cz0_3 a0.2.2.2]) _ _ a0.2.2.2 _ a1 _ HH23.focus (by omega) (by omega)) fun e w' hr => ?_
  obtain ⟨Sr22, rfl, hbr22⟩ := hr
  have HH24 := HH23.back hbr22
  clear hbr22
  have HH25 : Held M w (rSo eMultiRule Sr22 Az0_3 cz0_3 (mk_SMultiRule a0.2.2.2 a1) :: [rBlk q21 55 [.int .i64 (a0.1), .int .i64 (a0.2.1), .int .i64 (a0.2.2.1), .slice Az0_3 (a0.2.2.2.length) cz0_3]]) _ := HH24
  refine ⟨_, rfl, fun a_26 HE27 => hK21 _ _ ?_⟩
  refine pl_x HE27 HH25 (wt0 rfl) (x_assign rfl) rfl rfl fun a_28 HE29 => ?_
  refine wpList_nil ?_
  clear a_12 HE13 a_14 HE15 a_16 HE17 HH11 HH22 HH23 HH24 a_18 HE19 a_26 HE27 hK21 K_20
  refine nrm ?_
  refine wp_seq ?_
  refine rg ?_
  refine pl_x HE29 HH25 (wt0 rfl) (x_move rfl) rfl rfl fun a_30 HE31 => ?_
  refine pl_x HE31 HH25 (wt0 rfl) (x_assign rfl) rfl rfl fun a_32 HE33 => ?_
  refine wpList_nil ?_
  clear a_28 HE29 a_30 HE31
  refine nrm ?_
  refine wp_ret ?_
  refine ret1 HE33 rfl (rv_tmp rfl) ?_
  have HH34 := HH25.relen (n := a0.2.2.2.length) (by first | exact mkL_len _ _ _ _ | (simp; done) | (simp; omega))
  have HH35 := HH34.pairF (E := eInt) (c1 := [.int .i64 (a0.2.2.1)]) (x := a0.2.2.1) (oI (by exact ⟨by omega, by omega⟩))
  have HH36 := HH35.pairF (E := eInt) (c1 := [.int .i64 (a0.2.1)]) (x := a0.2.1) (oI (by exact ⟨by omega, by omega⟩))
  have HH37 := HH36.pairF (E := eInt) (c1 := [.int .i64 (a0.1)]) (x := a0.1) (oI (by exact ⟨by omega, by omega⟩))
  obtain ⟨S23, HH38⟩ : ∃ S, Held M w (rO eMulti S [.int .i64 (a0.1), .int .i64 (a0.2.1), .int .i64 (a0.2.2.1), .slice Az0_3 (a0.2.2.2.length) cz0_3] (a0.1, a0.2.1, a0.2.2.1, (mk_SMultiRule a0.2.2.2 a1)) :: _) _ := ⟨_, HH37⟩
  have hF : (mkR_Multi a0 a1) = ((a1 + (ct_SMultiRule a0.2.2.2 : Int)), (a0.1, a0.2.1, a0.2.2.1, (mk_SMultiRule a0.2.2.2 a1))) := by
    rfl
  exact ⟨_, by first | (rw [hF] <;> rfl) | rfl | (rw [hF]; simp only [Ending.returned.injEq, Value.slice.injEq, true_and, and_true]; first | omega | (simp; done)) | (rw [hF]; simp; omega), by rw [hF]; exact HH38.sel [0] (by decide) rfl⟩

set_option maxRecDepth 100000 in
set_option maxHeartbeats 4000000 in
theorem held_Multi_e (es0 : List Value) (a0 : tMulti) (a1 : Int) (z : tMulti) (w : World) (h0 : eMulti.R w (Old w) es0 a0) (sz : a0 = mv_Multi z a1) (s0 : 0 ≤ a1) (s1 : a1 + (cv_Multi z : Int) ≤ 1000000000000) :
    Calls Try.prog 39 #[.agg es0.toArray, .int .i64 a1] w fun e w' => e = .returned (.int .i64 (a1 + (cv_Multi z : Int))) ∧ Below w.heap.size w w' := by
  have H0 := h0
  obtain ⟨Az0_3, cz0_3, rfl, gz0_0, gz0_1, gz0_2, gz0_3⟩ := shape_Multi h0
  have jz0_0 := gz0_0; unfold I64 at jz0_0
  have jz0_1 := gz0_1; unfold I64 at jz0_1
  have jz0_2 := gz0_2; unfold I64 at jz0_2
  have lz0_3 := gz0_3.len
  obtain ⟨za0, hza0⟩ : ∃ y, y = z := ⟨_, rfl⟩
  have hxa0 : a0 = mv_Multi za0 a1 := by rw [hza0]; exact sz
  have hc0 : cv_Multi z = ct_SMultiRule za0.2.2.2 := by rw [hza0]; rfl
  have HH1 := Held.start Nob w
  refine enter (n := 12) Try.func39 rfl rfl rfl fun a_2 HE3 => ?_
  refine wp_seq ?_
  refine rg ?_
  refine pl fun K_4 hK5 => ?_
  refine st_box (cs := [.int .i64 (a0.1), .int .i64 (a0.2.1), .int .i64 (a0.2.2.1), .slice Az0_3 (a0.2.2.2.length) cz0_3]) HE3 HH1 rfl rfl (wt0 rfl) rfl fun q21 a_6 w' HE7 HH8 => hK5 _ _ ?_
  refine pl_x HE7 HH8 (wt0 rfl) (x_assign rfl) rfl rfl fun a_9 HE10 => ?_
  refine wpList_nil ?_
  clear a_2 HE3 HH1 a_6 HE7 hK5 K_4
  refine nrm ?_
  refine wp_seq ?_
  refine rg ?_
  refine pl_x HE10 HH8 (wt0 rfl) (x_fieldAddr fa_55_3 rfl) rfl rfl fun a_11 HE12 => ?_
  refine pl_x HE12 HH8 (wt0 rfl) (x_load1 tv_53 rfl (c_blk 0 rfl rfl)) rfl rfl fun a_13 HE14 => ?_
  refine pl_x HE14 HH8 (wt0 rfl) (x_move rfl) rfl rfl fun a_15 HE16 => ?_
  refine pl fun K_17 hK18 => ?_
  refine st_call HE16 (wt0 rfl) rfl rfl rfl en_81 rfl rfl (held_SMultiRule_e _ _ a0.2.2.2 a1 za0.2.2.2 _ (HH8.old gz0_3) (by rw [hxa0]; rfl) (by omega) (by omega)) fun e w' hr => ?_
  obtain ⟨rfl, hbr22⟩ := hr
  have HH19 := HH8.on hbr22
  clear hbr22
  refine ⟨_, rfl, fun a_20 HE21 => hK18 _ _ ?_⟩
  refine pl_x HE21 HH19 (wt0 rfl) (x_assign rfl) rfl rfl fun a_22 HE23 => ?_
  refine wpList_nil ?_
  clear a_9 HE10 a_11 HE12 a_13 HE14 HH8 a_15 HE16 a_20 HE21 hK18 K_17
  refine nrm ?_
  refine wp_seq ?_
  refine wp_seq ?_
  refine rg ?_
  refine pl_x HE23 HH19 (wt0 rfl) (x_move rfl) rfl rfl fun a_24 HE25 => ?_
  refine pl_x HE25 HH19 (wt0 rfl) (x_lss rfl rfl) rfl rfl fun a_26 HE27 => ?_
  refine wpList_nil ?_
  clear a_22 HE23 a_24 HE25
  refine nrm ?_
  refine cnd_d HE27 rfl (fun hc23 => ?_) (fun hc23 => ?_)
  · refine wp_seq ?_
    refine rg ?_
    refine pl_x HE27 HH19 (wt0 rfl) (x_assign rfl) rfl rfl fun a_28 HE29 => ?_
    refine wpList_nil ?_
    clear a_26 HE27
    refine nrm ?_
    refine wp_ret ?_
    refine (thn_ret ?_)
    refine ret1 HE29 rfl (rv_tmp rfl) ?_
    have hF : (a1 + (cv_Multi z : Int)) = -1 := by
      first | (exfalso; omega) | (rw [hc0])
    exact ⟨by first | (rw [hF] <;> rfl) | rfl | (rw [hF]; simp only [Ending.returned.injEq, Value.slice.injEq, true_and, and_true]; first | omega | (simp; done)) | (rw [hF]; simp; omega), HH19.below⟩
  · refine wp_skip ?_
    refine nrm ?_
    refine wp_seq ?_
    refine rg ?_
    refine pl_x HE27 HH19 (wt0 rfl) (x_move rfl) rfl rfl fun a_30 HE31 => ?_
    refine pl_x HE31 HH19 (wt0 rfl) (x_assign rfl) rfl rfl fun a_32 HE33 => ?_
    refine wpList_nil ?_
    clear a_26 HE27 a_30 HE31
    refine nrm ?_
    refine wp_ret ?_
    refine ret1 HE33 rfl (rv_tmp rfl) ?_
    have hF : (a1 + (cv_Multi z : Int)) = (a1 + (ct_SMultiRule za0.2.2.2 : Int)) := by
      first | (exfalso; omega) | (rw [hc0])
    exact ⟨by first | (rw [hF] <;> rfl) | rfl | (rw [hF]; simp only [Ending.returned.injEq, Value.slice.injEq, true_and, and_true]; first | omega | (simp; done)) | (rw [hF]; simp; omega), HH19.below⟩

/-- The value of limbs. -/
def val : List Int → Int
  | [] => 0
  | x :: xs => x + 1000000 * val xs

def limbs (xs : List Int) : Prop := ∀ x ∈ xs, 0 ≤ x ∧ x ≤ 999999

/-- The limbs of a number. -/
def digs (n : Nat) : List Int := if h : n = 0 then [] else ((n % 1000000 : Nat) : Int) :: digs (n / 1000000)
  termination_by n
  decreasing_by omega

/-- The product of limbs. -/
def mulN (a b : List Int) : List Int := digs (val a * val b).toNat

def noNaN (_ : Int) : Bool := false

def cmpI (x y : Int) : Int := if x < y then -1 else if y < x then 1 else 0

def cmpL : List Int → List Int → Int
  | [], [] => 0
  | [], _ :: _ => -1
  | _ :: _, [] => 1
  | x :: xs, y :: ys => if x < y then -1 else if y < x then 1 else cmpL xs ys

theorem cmpL_step {a b : List Int} {k : Nat} (ha : k < a.length) (hb : k < b.length) : cmpL (a.drop k) (b.drop k) = if a[k] < b[k] then -1 else if b[k] < a[k] then 1 else cmpL (a.drop (k + 1)) (b.drop (k + 1)) := by
  rw [List.drop_eq_getElem_cons ha, List.drop_eq_getElem_cons hb, cmpL]

theorem cmpL_end (a b : List Int) (k : Nat) (h : a.length ≤ k ∨ b.length ≤ k) (ha : k ≤ a.length) (hb : k ≤ b.length) : cmpL (a.drop k) (b.drop k) = if a.length < b.length then -1 else if b.length < a.length then 1 else 0 := by
  by_cases h1 : k < a.length
  · rw [show b.drop k = [] from List.drop_of_length_le (by omega), List.drop_eq_getElem_cons h1, cmpL, if_neg (by omega), if_pos (by omega)]
  · by_cases h2 : k < b.length
    · rw [show a.drop k = [] from List.drop_of_length_le (by omega), List.drop_eq_getElem_cons h2, cmpL, if_pos (by omega)]
    · rw [List.drop_of_length_le (by omega), List.drop_of_length_le (by omega), cmpL, if_neg (by omega), if_neg (by omega)]

def cmpMR (a b : tMultiRule) : Int := if a.1 = b.1 then cmpL a.2.1 b.2.1 else if a.1 < b.1 then -1 else 1

def beforeMR (a b : tMultiRule) : Bool := decide (cmpMR a b < 0)

set_option maxRecDepth 100000 in
set_option maxHeartbeats 4000000 in
theorem cmp_isNaN (a0 : Int) (w : World)  :
    Calls Try.prog 128 #[.int .i64 a0] w fun e w' => e = .returned (.bool (noNaN a0)) ∧ w = w' := by
  have HH1 := Held.start Nob w
  refine enter (n := 6) Try.func128 rfl rfl rfl fun a_2 HE3 => ?_
  refine wp_seq ?_
  refine rg ?_
  refine pl_x HE3 HH1 (wt0 rfl) (x_assign rfl) rfl rfl fun a_4 HE5 => ?_
  refine wpList_nil ?_
  clear a_2 HE3
  refine nrm ?_
  refine wp_seq ?_
  refine rg ?_
  refine pl_x HE5 HH1 (wt0 rfl) (x_move rfl) rfl rfl fun a_6 HE7 => ?_
  refine pl_x HE7 HH1 (wt0 rfl) (x_move rfl) rfl rfl fun a_8 HE9 => ?_
  refine pl_x HE9 HH1 (wt0 rfl) (x_neq rfl rfl) rfl rfl fun a_10 HE11 => ?_
  refine pl_x HE11 HH1 (wt0 rfl) (x_assign rfl) rfl rfl fun a_12 HE13 => ?_
  refine wpList_nil ?_
  clear a_4 HE5 a_6 HE7 a_8 HE9 a_10 HE11
  refine nrm ?_
  refine wp_ret ?_
  refine ret1 HE13 rfl (rv_tmp rfl) ?_
  have hF : (noNaN a0) = (a0 != a0) := by
    first | rfl | (simp [noNaN]; done) | (simp [noNaN]; omega) | grind [noNaN]
  exact ⟨by first | (rw [hF] <;> rfl) | rfl | (rw [hF]; simp only [Ending.returned.injEq, Value.slice.injEq, true_and, and_true]; first | omega | (simp; done)) | (rw [hF]; simp; omega), rfl⟩

set_option maxRecDepth 100000 in
set_option maxHeartbeats 4000000 in
theorem cmp_Compare (a0 : Int) (a1 : Int) (w : World)  :
    Calls Try.prog 137 #[.int .i64 a0, .int .i64 a1] w fun e w' => e = .returned (.int .i64 (cmpI a0 a1)) ∧ w = w' := by
  have HH1 := Held.start Nob w
  refine enter (n := 20) Try.func137 rfl rfl rfl fun a_2 HE3 => ?_
  refine wp_seq ?_
  refine rg ?_
  refine pl_x HE3 HH1 (wt0 rfl) (x_assign rfl) rfl rfl fun a_4 HE5 => ?_
  refine wpList_nil ?_
  clear a_2 HE3
  refine nrm ?_
  refine wp_seq ?_
  refine rg ?_
  refine pl_x HE5 HH1 (wt0 rfl) (x_move rfl) rfl rfl fun a_6 HE7 => ?_
  refine pl fun K_8 hK9 => ?_
  refine st_call HE7 (wt0 rfl) rfl rfl rfl en_128 rfl rfl (cmp_isNaN a0 _ ) fun e w' hr => ?_
  obtain ⟨rfl, rfl⟩ := hr
  refine ⟨_, rfl, fun a_10 HE11 => hK9 _ _ ?_⟩
  refine pl_x HE11 HH1 (wt0 rfl) (x_assign rfl) rfl rfl fun a_12 HE13 => ?_
  refine wpList_nil ?_
  clear a_4 HE5 a_6 HE7 a_10 HE11 hK9 K_8
  refine nrm ?_
  refine wp_seq ?_
  refine rg ?_
  refine pl_x HE13 HH1 (wt0 rfl) (x_move rfl) rfl rfl fun a_14 HE15 => ?_
  refine pl fun K_16 hK17 => ?_
  refine st_call HE15 (wt0 rfl) rfl rfl rfl en_128 rfl rfl (cmp_isNaN a1 _ ) fun e w' hr => ?_
  obtain ⟨rfl, rfl⟩ := hr
  refine ⟨_, rfl, fun a_18 HE19 => hK17 _ _ ?_⟩
  refine pl_x HE19 HH1 (wt0 rfl) (x_assign rfl) rfl rfl fun a_20 HE21 => ?_
  refine wpList_nil ?_
  clear a_12 HE13 a_14 HE15 a_18 HE19 hK17 K_16
  refine nrm ?_
  refine wp_seq ?_
  refine wp_seq ?_
  refine rg ?_
  refine pl_x HE21 HH1 (wt0 rfl) (x_move rfl) rfl rfl fun a_22 HE23 => ?_
  refine wpList_nil ?_
  clear a_20 HE21
  refine nrm ?_
  refine cndF HE23 rfl rfl ?_
  refine wp_skip ?_
  refine nrm ?_
  refine wp_seq ?_
  refine wp_seq ?_
  refine rg ?_
  refine pl_x HE23 HH1 (wt0 rfl) (x_move rfl) rfl rfl fun a_24 HE25 => ?_
  refine wpList_nil ?_
  clear a_22 HE23
  refine nrm ?_
  refine cndF HE25 rfl rfl ?_
  refine wp_skip ?_
  refine nrm ?_
  refine wp_seq ?_
  refine wp_seq ?_
  refine rg ?_
  refine pl_x HE25 HH1 (wt0 rfl) (x_move rfl) rfl rfl fun a_26 HE27 => ?_
  refine pl_x HE27 HH1 (wt0 rfl) (x_move rfl) rfl rfl fun a_28 HE29 => ?_
  refine pl_x HE29 HH1 (wt0 rfl) (x_lss rfl rfl) rfl rfl fun a_30 HE31 => ?_
  refine wpList_nil ?_
  clear a_24 HE25 a_26 HE27 a_28 HE29
  refine nrm ?_
  refine cnd_d HE31 rfl (fun hc23 => ?_) (fun hc23 => ?_)
  · refine wp_seq ?_
    refine rg ?_
    refine pl_x HE31 HH1 (wt0 rfl) (x_assign rfl) rfl rfl fun a_32 HE33 => ?_
    refine wpList_nil ?_
    clear a_30 HE31
    refine nrm ?_
    refine wp_ret ?_
    refine (thn_ret ?_)
    refine ret1 HE33 rfl (rv_tmp rfl) ?_
    have hF : (cmpI a0 a1) = -1 := by
      first | (unfold cmpI; rw [if_pos (by omega)]; done) | (unfold cmpI; rw [if_neg (by omega), if_pos (by omega)]; done) | (unfold cmpI; rw [if_neg (by omega), if_neg (by omega)])
    exact ⟨by first | (rw [hF] <;> rfl) | rfl | (rw [hF]; simp only [Ending.returned.injEq, Value.slice.injEq, true_and, and_true]; first | omega | (simp; done)) | (rw [hF]; simp; omega), rfl⟩
  · refine wp_skip ?_
    refine nrm ?_
    refine wp_seq ?_
    refine wp_seq ?_
    refine rg ?_
    refine pl_x HE31 HH1 (wt0 rfl) (x_move rfl) rfl rfl fun a_34 HE35 => ?_
    refine pl_x HE35 HH1 (wt0 rfl) (x_move rfl) rfl rfl fun a_36 HE37 => ?_
    refine pl_x HE37 HH1 (wt0 rfl) (x_gtr rfl rfl) rfl rfl fun a_38 HE39 => ?_
    refine wpList_nil ?_
    clear a_30 HE31 a_34 HE35 a_36 HE37
    refine nrm ?_
    refine cnd_d HE39 rfl (fun hc24 => ?_) (fun hc24 => ?_)
    · refine wp_seq ?_
      refine rg ?_
      refine pl_x HE39 HH1 (wt0 rfl) (x_assign rfl) rfl rfl fun a_40 HE41 => ?_
      refine wpList_nil ?_
      clear a_38 HE39
      refine nrm ?_
      refine wp_ret ?_
      refine (thn_ret ?_)
      refine ret1 HE41 rfl (rv_tmp rfl) ?_
      have hF : (cmpI a0 a1) = 1 := by
        first | (unfold cmpI; rw [if_pos (by omega)]; done) | (unfold cmpI; rw [if_neg (by omega), if_pos (by omega)]; done) | (unfold cmpI; rw [if_neg (by omega), if_neg (by omega)])
      exact ⟨by first | (rw [hF] <;> rfl) | rfl | (rw [hF]; simp only [Ending.returned.injEq, Value.slice.injEq, true_and, and_true]; first | omega | (simp; done)) | (rw [hF]; simp; omega), rfl⟩
    · refine wp_skip ?_
      refine nrm ?_
      refine wp_seq ?_
      refine rg ?_
      refine pl_x HE39 HH1 (wt0 rfl) (x_assign rfl) rfl rfl fun a_42 HE43 => ?_
      refine wpList_nil ?_
      clear a_38 HE39
      refine nrm ?_
      refine wp_ret ?_
      refine ret1 HE43 rfl (rv_tmp rfl) ?_
      have hF : (cmpI a0 a1) = 0 := by
        first | (unfold cmpI; rw [if_pos (by omega)]; done) | (unfold cmpI; rw [if_neg (by omega), if_pos (by omega)]; done) | (unfold cmpI; rw [if_neg (by omega), if_neg (by omega)])
      exact ⟨by first | (rw [hF] <;> rfl) | rfl | (rw [hF]; simp only [Ending.returned.injEq, Value.slice.injEq, true_and, and_true]; first | omega | (simp; done)) | (rw [hF]; simp; omega), rfl⟩

set_option maxRecDepth 100000 in
set_option maxHeartbeats 4000000 in
theorem spec_l01Compare (A0 : Option Addr) (c0 : Nat) (a0 : (List Int)) (A1 : Option Addr) (c1 : Nat) (a1 : (List Int)) (w : World) (h0 : Sl eInt w (Old w) A0 c0 a0) (h1 : Sl eInt w (Old w) A1 c1 a1) :
    Calls Try.prog 129 #[.slice A0 a0.length c0, .slice A1 a1.length c1] w fun e w' => e = .returned (.int .i64 (cmpL a0 a1)) ∧ Below w.heap.size w w' := by
  have l0 := h0.len
  have l1 := h1.len
  have HH1 := Held.start Nob w
  refine enter (n := 46) Try.func129 rfl rfl rfl fun a_2 HE3 => ?_
  refine wp_seq ?_
  refine rg ?_
  refine pl_x HE3 HH1 (wt0 rfl) (x_assign rfl) rfl rfl fun a_4 HE5 => ?_
  refine wpList_nil ?_
  clear a_2 HE3
  refine nrm ?_
  refine wp_seq ?_
  refine wp_seq ?_
  refine rg ?_
  refine pl_x HE5 HH1 (wt0 rfl) (x_assign rfl) rfl rfl fun a_6 HE7 => ?_
  refine wpList_nil ?_
  clear a_4 HE5
  refine nrm ?_
  refine wp_block ?_
  refine lp (fun m a w' => ∃ (k : Nat), m = a0.length - k ∧ Env 46 [(5, .int .i64 (k : Int)), (0, .slice A0 (a0.length) c0), (1, .slice A1 (a1.length) c1)] a ∧ Held Nob w [] w' ∧ (k ≤ a0.length) ∧ (k ≤ a1.length) ∧ (cmpL a0 a1 = cmpL (a0.drop k) (a1.drop k))) (a0.length - (0)) ?_ ?_
  · exact ⟨0, rfl, HE7.sub ⟨(lkI rfl (by first | rfl | omega | (simp []; done))), rfl, rfl, trivial⟩, (HH1.sel [] (by decide) rfl), (by first | omega | assumption | (simp; done) | simp_all), (by first | omega | assumption | (simp; done) | simp_all), (by rfl)⟩
  · rintro m a_8 w' ⟨k, rfl, HE9, HH10, p21_0, p21_1, p21_2⟩
    refine wp_seq ?_
    refine wp_seq ?_
    refine rg ?_
    refine pl_x HE9 HH10 (wt0 rfl) (x_move rfl) rfl rfl fun a_11 HE12 => ?_
    refine pl_x HE12 HH10 (wt0 rfl) (x_move rfl) rfl rfl fun a_13 HE14 => ?_
    refine pl_x HE14 HH10 (wt0 rfl) (x_len Try.underlying37 rfl) rfl rfl fun a_15 HE16 => ?_
    refine pl_x HE16 HH10 (wt0 rfl) (x_lss rfl rfl) rfl rfl fun a_17 HE18 => ?_
    refine pl_x HE18 HH10 (wt0 rfl) (x_move rfl) rfl rfl fun a_19 HE20 => ?_
    by_cases hc22 : (k : Int) < (a0.length : Int)
    · refine pl_x HE20 HH10 (wtT HE20 rfl rfl rfl (decide_eq_true hc22)) (x_move rfl) rfl rfl fun a_21 HE22 => ?_
      refine pl_x HE22 HH10 (wtT HE22 rfl rfl rfl (decide_eq_true hc22)) (x_move rfl) rfl rfl fun a_23 HE24 => ?_
      refine pl_x HE24 HH10 (wtT HE24 rfl rfl rfl (decide_eq_true hc22)) (x_len Try.underlying37 rfl) rfl rfl fun a_25 HE26 => ?_
      refine pl_x HE26 HH10 (wtT HE26 rfl rfl rfl (decide_eq_true hc22)) (x_lss rfl rfl) rfl rfl fun a_27 HE28 => ?_
      refine pl_x HE28 HH10 (wt0 rfl) (x_pickT rfl (decide_eq_true hc22) rfl) rfl rfl fun a_29 HE30 => ?_
      refine wpList_nil ?_
      clear a_6 HE7 HH1 a_8 HE9 a_11 HE12 a_13 HE14 a_15 HE16 a_17 HE18 a_19 HE20 a_21 HE22 a_23 HE24 a_25 HE26 a_27 HE28
      refine nrm ?_
      refine cnd_d HE30 rfl (fun hc23 => ?_) (fun hc23 => ?_)
      · refine wp_skip ?_
        refine nrm ?_
        refine wp_seq ?_
        refine wp_block ?_
        refine wp_seq ?_
        refine wp_seq ?_
        refine dr_start (Held Nob w []) 9 #[false, false, false, false, false, false, false, false, false] hmix rfl rfl HH10 (fun _ h => h.sel [] (by decide) rfl) fun w' HH31 => ?_
        have HS32 := HH31
        refine dr_take (i := 0) (ls' := #[true, false, false, false, false, false, false, false, false]) HE30 HS32 rfl (by kernel_rfl) (by kernel_rfl) (by kernel_rfl) (fun _ _ _ h => h) rfl (wt0 rfl) (x_move rfl) rfl rfl fun a_33 HE34 => ?_
        refine dr_take (i := 1) (ls' := #[true, true, false, false, false, false, false, false, false]) HE34 HS32 rfl (by kernel_rfl) (by kernel_rfl) (by kernel_rfl) (fun _ _ _ h => h) rfl (wt0 rfl) (x_move rfl) rfl rfl fun a_35 HE36 => ?_
        have ke24 : k < a0.length := by omega
        obtain ⟨be24, fe24, ese24, Ae24, Re24, De24⟩ := el_old h0 ke24
        obtain ⟨e24, xe24⟩ : ∃ x_, x_ = a0[k] := ⟨_, rfl⟩
        rw [← xe24] at Re24
        have Qe24 := Re24
        obtain ⟨rfl, ie24⟩ := Re24
        have je24 := ie24; unfold I64 at je24
        refine dr_take (i := 2) (ls' := #[true, true, true, false, false, false, false, false, false]) HE36 HS32 rfl (by kernel_rfl) (by kernel_rfl) (by kernel_rfl) (fun _ _ _ h => h) rfl (wt0 rfl) (x_indexAddr ts_37 rfl rfl Ae24 rfl ke24) rfl rfl fun a_37 HE38 => ?_
        refine dr_take (i := 3) (ls' := #[true, true, true, true, false, false, false, false, false]) HE38 HS32 rfl (by kernel_rfl) (by kernel_rfl) (by kernel_rfl) (fun _ _ _ h => h) rfl (wt0 rfl) (x_load1 tv_2 rfl (c_old (De24 0 _ rfl))) rfl rfl fun a_39 HE40 => ?_
        refine dr_take (i := 4) (ls' := #[true, true, true, true, true, false, false, false, false]) HE40 HS32 rfl (by kernel_rfl) (by kernel_rfl) (by kernel_rfl) (fun _ _ _ h => h) rfl (wt0 rfl) (x_move rfl) rfl rfl fun a_41 HE42 => ?_
        refine dr_take (i := 5) (ls' := #[true, true, true, true, true, true, false, false, false]) HE42 HS32 rfl (by kernel_rfl) (by kernel_rfl) (by kernel_rfl) (fun _ _ _ h => h) rfl (wt0 rfl) (x_move rfl) rfl rfl fun a_43 HE44 => ?_
        have ke25 : k < a1.length := by omega
        obtain ⟨be25, fe25, ese25, Ae25, Re25, De25⟩ := el_old h1 ke25
        obtain ⟨e25, xe25⟩ : ∃ x_, x_ = a1[k] := ⟨_, rfl⟩
        rw [← xe25] at Re25
        have Qe25 := Re25
        obtain ⟨rfl, ie25⟩ := Re25
        have je25 := ie25; unfold I64 at je25
        refine dr_take (i := 6) (ls' := #[true, true, true, true, true, true, true, false, false]) HE44 HS32 rfl (by kernel_rfl) (by kernel_rfl) (by kernel_rfl) (fun _ _ _ h => h) rfl (wt0 rfl) (x_indexAddr ts_37 rfl rfl Ae25 rfl ke25) rfl rfl fun a_45 HE46 => ?_
        refine dr_take (i := 7) (ls' := #[true, true, true, true, true, true, true, true, false]) HE46 HS32 rfl (by kernel_rfl) (by kernel_rfl) (by kernel_rfl) (fun _ _ _ h => h) rfl (wt0 rfl) (x_load1 tv_2 rfl (c_old (De25 0 _ rfl))) rfl rfl fun a_47 HE48 => ?_
        refine dr_take (i := 8) (ls' := #[true, true, true, true, true, true, true, true, true]) HE48 HS32 rfl (by kernel_rfl) (by kernel_rfl) (by kernel_rfl) (fun _ _ _ h => h) rfl (wt0 rfl) (x_lss rfl rfl) rfl rfl fun a_49 HE50 => ?_
        refine dr_done (by kernel_rfl) ?_
        clear HH10 a_29 HE30 a_33 HE34 a_35 HE36 a_37 HE38 a_39 HE40 a_41 HE42 a_43 HE44 a_45 HE46 a_47 HE48
        refine nrm ?_
        refine cnd_d HE50 rfl (fun hc26 => ?_) (fun hc26 => ?_)
        · refine wp_seq ?_
          refine rg ?_
          refine pl_x HE50 HH31 (wt0 rfl) (x_assign rfl) rfl rfl fun a_51 HE52 => ?_
          refine wpList_nil ?_
          clear a_49 HE50
          refine nrm ?_
          refine wp_ret ?_
          refine (thn_ret (blk_ret (thn_ret (thn_ret (blk_ret (thn_ret ?_))))))
          refine ret1 HE52 rfl (rv_tmp rfl) ?_
          have hF : (cmpL a0 a1) = -1 := by
            rw [p21_2]; first | (rw [cmpL_end a0 a1 k (by omega) (by omega) (by omega)]; grind) | (rw [cmpL_step (by omega) (by omega)]; grind [cmpI])
          exact ⟨by first | (rw [hF] <;> rfl) | rfl | (rw [hF]; simp only [Ending.returned.injEq, Value.slice.injEq, true_and, and_true]; first | omega | (simp; done)) | (rw [hF]; simp; omega), HH31.below⟩
        · refine wp_skip ?_
          refine nrm ?_
          refine wp_seq ?_
          refine dr_start (Held Nob w []) 9 #[false, false, false, false, false, false, false, false, false] hmix rfl rfl HH31 (fun _ h => h.sel [] (by decide) rfl) fun w' HH53 => ?_
          have HS54 := HH53
          refine dr_take (i := 0) (ls' := #[true, false, false, false, false, false, false, false, false]) HE50 HS54 rfl (by kernel_rfl) (by kernel_rfl) (by kernel_rfl) (fun _ _ _ h => h) rfl (wt0 rfl) (x_move rfl) rfl rfl fun a_55 HE56 => ?_
          refine dr_take (i := 1) (ls' := #[true, true, false, false, false, false, false, false, false]) HE56 HS54 rfl (by kernel_rfl) (by kernel_rfl) (by kernel_rfl) (fun _ _ _ h => h) rfl (wt0 rfl) (x_move rfl) rfl rfl fun a_57 HE58 => ?_
          refine dr_take (i := 2) (ls' := #[true, true, true, false, false, false, false, false, false]) HE58 HS54 rfl (by kernel_rfl) (by kernel_rfl) (by kernel_rfl) (fun _ _ _ h => h) rfl (wt0 rfl) (x_indexAddr ts_37 rfl rfl Ae24 rfl ke24) rfl rfl fun a_59 HE60 => ?_
          refine dr_take (i := 3) (ls' := #[true, true, true, true, false, false, false, false, false]) HE60 HS54 rfl (by kernel_rfl) (by kernel_rfl) (by kernel_rfl) (fun _ _ _ h => h) rfl (wt0 rfl) (x_load1 tv_2 rfl (c_old (De24 0 _ rfl))) rfl rfl fun a_61 HE62 => ?_
          refine dr_take (i := 4) (ls' := #[true, true, true, true, true, false, false, false, false]) HE62 HS54 rfl (by kernel_rfl) (by kernel_rfl) (by kernel_rfl) (fun _ _ _ h => h) rfl (wt0 rfl) (x_move rfl) rfl rfl fun a_63 HE64 => ?_
          refine dr_take (i := 5) (ls' := #[true, true, true, true, true, true, false, false, false]) HE64 HS54 rfl (by kernel_rfl) (by kernel_rfl) (by kernel_rfl) (fun _ _ _ h => h) rfl (wt0 rfl) (x_move rfl) rfl rfl fun a_65 HE66 => ?_
          refine dr_take (i := 6) (ls' := #[true, true, true, true, true, true, true, false, false]) HE66 HS54 rfl (by kernel_rfl) (by kernel_rfl) (by kernel_rfl) (fun _ _ _ h => h) rfl (wt0 rfl) (x_indexAddr ts_37 rfl rfl Ae25 rfl ke25) rfl rfl fun a_67 HE68 => ?_
          refine dr_take (i := 7) (ls' := #[true, true, true, true, true, true, true, true, false]) HE68 HS54 rfl (by kernel_rfl) (by kernel_rfl) (by kernel_rfl) (fun _ _ _ h => h) rfl (wt0 rfl) (x_load1 tv_2 rfl (c_old (De25 0 _ rfl))) rfl rfl fun a_69 HE70 => ?_
          refine dr_take (i := 8) (ls' := #[true, true, true, true, true, true, true, true, true]) HE70 HS54 rfl (by kernel_rfl) (by kernel_rfl) (by kernel_rfl) (fun _ _ _ h => h) rfl (wt0 rfl) (x_gtr rfl rfl) rfl rfl fun a_71 HE72 => ?_
          refine dr_done (by kernel_rfl) ?_
          clear HH31 HS32 a_49 HE50 a_55 HE56 a_57 HE58 a_59 HE60 a_61 HE62 a_63 HE64 a_65 HE66 a_67 HE68 a_69 HE70
          refine nrm ?_
          refine cnd_d HE72 rfl (fun hc27 => ?_) (fun hc27 => ?_)
          · refine wp_seq ?_
            refine rg ?_
            refine pl_x HE72 HH53 (wt0 rfl) (x_assign rfl) rfl rfl fun a_73 HE74 => ?_
            refine wpList_nil ?_
            clear a_71 HE72
            refine nrm ?_
            refine wp_ret ?_
            refine (blk_ret (thn_ret (thn_ret (blk_ret (thn_ret ?_)))))
            refine ret1 HE74 rfl (rv_tmp rfl) ?_
            have hF : (cmpL a0 a1) = 1 := by
              rw [p21_2]; first | (rw [cmpL_end a0 a1 k (by omega) (by omega) (by omega)]; grind) | (rw [cmpL_step (by omega) (by omega)]; grind [cmpI])
            exact ⟨by first | (rw [hF] <;> rfl) | rfl | (rw [hF]; simp only [Ending.returned.injEq, Value.slice.injEq, true_and, and_true]; first | omega | (simp; done)) | (rw [hF]; simp; omega), HH53.below⟩
          · refine wp_skip ?_
            refine blk_n ?_
            refine nrm ?_
            refine rg ?_
            refine pl_x HE72 HH53 (wt0 rfl) (x_move rfl) rfl rfl fun a_75 HE76 => ?_
            refine pl_x HE76 HH53 (wt0 rfl) (x_add rfl rfl (by exact ⟨by omega, by omega⟩)) rfl rfl fun a_77 HE78 => ?_
            refine pl_x HE78 HH53 (wt0 rfl) (x_assign rfl) rfl rfl fun a_79 HE80 => ?_
            refine wpList_nil ?_
            clear a_71 HE72 a_75 HE76 a_77 HE78
            exact nrm ⟨a0.length - (k + 1), (by omega), k + 1, rfl, HE80.sub ⟨(lkI rfl (by first | rfl | omega | (simp [p21_0, p21_1, p21_2, hc22, hc23, xe24, xe25, hc26, hc27]; done))), rfl, rfl, trivial⟩, (HH53.sel [] (by decide) rfl), (by first | omega | assumption | (simp; done) | simp_all), (by first | omega | assumption | (simp; done) | simp_all), (by rw [p21_2, cmpL_step (by omega) (by omega)]; grind [cmpI])⟩
      · refine wp_exit ?_
        refine (thn_exit (thn_exit (blk_hit ?_)))
        refine nrm ?_
        refine wp_seq ?_
        refine wp_seq ?_
        refine rg ?_
        refine pl_x HE30 HH10 (wt0 rfl) (x_move rfl) rfl rfl fun a_81 HE82 => ?_
        refine pl_x HE82 HH10 (wt0 rfl) (x_len Try.underlying37 rfl) rfl rfl fun a_83 HE84 => ?_
        refine pl_x HE84 HH10 (wt0 rfl) (x_move rfl) rfl rfl fun a_85 HE86 => ?_
        refine pl_x HE86 HH10 (wt0 rfl) (x_len Try.underlying37 rfl) rfl rfl fun a_87 HE88 => ?_
        refine pl_x HE88 HH10 (wt0 rfl) (x_lss rfl rfl) rfl rfl fun a_89 HE90 => ?_
        refine wpList_nil ?_
        clear a_29 HE30 a_81 HE82 a_83 HE84 a_85 HE86 a_87 HE88
        refine nrm ?_
        refine cnd_d HE90 rfl (fun hc28 => ?_) (fun hc28 => ?_)
        · refine wp_seq ?_
          refine rg ?_
          refine pl_x HE90 HH10 (wt0 rfl) (x_assign rfl) rfl rfl fun a_91 HE92 => ?_
          refine wpList_nil ?_
          clear a_89 HE90
          refine nrm ?_
          refine wp_ret ?_
          refine (thn_ret ?_)
          refine ret1 HE92 rfl (rv_tmp rfl) ?_
          have hF : (cmpL a0 a1) = -1 := by
            rw [p21_2]; first | (rw [cmpL_end a0 a1 k (by omega) (by omega) (by omega)]; grind) | (rw [cmpL_step (by omega) (by omega)]; grind [cmpI])
          exact ⟨by first | (rw [hF] <;> rfl) | rfl | (rw [hF]; simp only [Ending.returned.injEq, Value.slice.injEq, true_and, and_true]; first | omega | (simp; done)) | (rw [hF]; simp; omega), HH10.below⟩
        · refine wp_skip ?_
          refine nrm ?_
          refine wp_seq ?_
          refine wp_seq ?_
          refine rg ?_
          refine pl_x HE90 HH10 (wt0 rfl) (x_move rfl) rfl rfl fun a_93 HE94 => ?_
          refine pl_x HE94 HH10 (wt0 rfl) (x_len Try.underlying37 rfl) rfl rfl fun a_95 HE96 => ?_
          refine pl_x HE96 HH10 (wt0 rfl) (x_move rfl) rfl rfl fun a_97 HE98 => ?_
          refine pl_x HE98 HH10 (wt0 rfl) (x_len Try.underlying37 rfl) rfl rfl fun a_99 HE100 => ?_
          refine pl_x HE100 HH10 (wt0 rfl) (x_gtr rfl rfl) rfl rfl fun a_101 HE102 => ?_
          refine wpList_nil ?_
          clear a_89 HE90 a_93 HE94 a_95 HE96 a_97 HE98 a_99 HE100
          refine nrm ?_
          refine cnd_d HE102 rfl (fun hc29 => ?_) (fun hc29 => ?_)
          · refine wp_seq ?_
            refine rg ?_
            refine pl_x HE102 HH10 (wt0 rfl) (x_assign rfl) rfl rfl fun a_103 HE104 => ?_
            refine wpList_nil ?_
            clear a_101 HE102
            refine nrm ?_
            refine wp_ret ?_
            refine (thn_ret ?_)
            refine ret1 HE104 rfl (rv_tmp rfl) ?_
            have hF : (cmpL a0 a1) = 1 := by
              rw [p21_2]; first | (rw [cmpL_end a0 a1 k (by omega) (by omega) (by omega)]; grind) | (rw [cmpL_step (by omega) (by omega)]; grind [cmpI])
            exact ⟨by first | (rw [hF] <;> rfl) | rfl | (rw [hF]; simp only [Ending.returned.injEq, Value.slice.injEq, true_and, and_true]; first | omega | (simp; done)) | (rw [hF]; simp; omega), HH10.below⟩
          · refine wp_skip ?_
            refine nrm ?_
            refine wp_seq ?_
            refine rg ?_
            refine pl_x HE102 HH10 (wt0 rfl) (x_assign rfl) rfl rfl fun a_105 HE106 => ?_
            refine wpList_nil ?_
            clear a_101 HE102
            refine nrm ?_
            refine wp_ret ?_
            refine ret1 HE106 rfl (rv_tmp rfl) ?_
            have hF : (cmpL a0 a1) = 0 := by
              rw [p21_2]; first | (rw [cmpL_end a0 a1 k (by omega) (by omega) (by omega)]; grind) | (rw [cmpL_step (by omega) (by omega)]; grind [cmpI])
            exact ⟨by first | (rw [hF] <;> rfl) | rfl | (rw [hF]; simp only [Ending.returned.injEq, Value.slice.injEq, true_and, and_true]; first | omega | (simp; done)) | (rw [hF]; simp; omega), HH10.below⟩
    · refine pl_no HE20 (wtF HE20 rfl rfl rfl (decide_eq_false hc22)) rfl rfl fun a_107 HE108 => ?_
      refine pl_no HE108 (wtF HE108 rfl rfl rfl (decide_eq_false hc22)) rfl rfl fun a_109 HE110 => ?_
      refine pl_no HE110 (wtF HE110 rfl rfl rfl (decide_eq_false hc22)) rfl rfl fun a_111 HE112 => ?_
      refine pl_no HE112 (wtF HE112 rfl rfl rfl (decide_eq_false hc22)) rfl rfl fun a_113 HE114 => ?_
      refine pl_x HE114 HH10 (wt0 rfl) (x_pickF rfl (decide_eq_false hc22) rfl) rfl rfl fun a_115 HE116 => ?_
      refine wpList_nil ?_
      clear a_6 HE7 HH1 a_8 HE9 a_11 HE12 a_13 HE14 a_15 HE16 a_17 HE18 a_19 HE20 a_107 HE108 a_109 HE110 a_111 HE112 a_113 HE114
      refine nrm ?_
      refine cndF HE116 rfl rfl ?_
      refine wp_exit ?_
      refine (thn_exit (thn_exit (blk_hit ?_)))
      refine nrm ?_
      refine wp_seq ?_
      refine wp_seq ?_
      refine rg ?_
      refine pl_x HE116 HH10 (wt0 rfl) (x_move rfl) rfl rfl fun a_117 HE118 => ?_
      refine pl_x HE118 HH10 (wt0 rfl) (x_len Try.underlying37 rfl) rfl rfl fun a_119 HE120 => ?_
      refine pl_x HE120 HH10 (wt0 rfl) (x_move rfl) rfl rfl fun a_121 HE122 => ?_
      refine pl_x HE122 HH10 (wt0 rfl) (x_len Try.underlying37 rfl) rfl rfl fun a_123 HE124 => ?_
      refine pl_x HE124 HH10 (wt0 rfl) (x_lss rfl rfl) rfl rfl fun a_125 HE126 => ?_
      refine wpList_nil ?_
      clear a_115 HE116 a_117 HE118 a_119 HE120 a_121 HE122 a_123 HE124
      refine nrm ?_
      refine cnd_d HE126 rfl (fun hc30 => ?_) (fun hc30 => ?_)
      · refine wp_seq ?_
        refine rg ?_
        refine pl_x HE126 HH10 (wt0 rfl) (x_assign rfl) rfl rfl fun a_127 HE128 => ?_
        refine wpList_nil ?_
        clear a_125 HE126
        refine nrm ?_
        refine wp_ret ?_
        refine (thn_ret ?_)
        refine ret1 HE128 rfl (rv_tmp rfl) ?_
        have hF : (cmpL a0 a1) = -1 := by
          rw [p21_2]; first | (rw [cmpL_end a0 a1 k (by omega) (by omega) (by omega)]; grind) | (rw [cmpL_step (by omega) (by omega)]; grind [cmpI])
        exact ⟨by first | (rw [hF] <;> rfl) | rfl | (rw [hF]; simp only [Ending.returned.injEq, Value.slice.injEq, true_and, and_true]; first | omega | (simp; done)) | (rw [hF]; simp; omega), HH10.below⟩
      · refine wp_skip ?_
        refine nrm ?_
        refine wp_seq ?_
        refine wp_seq ?_
        refine rg ?_
        refine pl_x HE126 HH10 (wt0 rfl) (x_move rfl) rfl rfl fun a_129 HE130 => ?_
        refine pl_x HE130 HH10 (wt0 rfl) (x_len Try.underlying37 rfl) rfl rfl fun a_131 HE132 => ?_
        refine pl_x HE132 HH10 (wt0 rfl) (x_move rfl) rfl rfl fun a_133 HE134 => ?_
        refine pl_x HE134 HH10 (wt0 rfl) (x_len Try.underlying37 rfl) rfl rfl fun a_135 HE136 => ?_
        refine pl_x HE136 HH10 (wt0 rfl) (x_gtr rfl rfl) rfl rfl fun a_137 HE138 => ?_
        refine wpList_nil ?_
        clear a_125 HE126 a_129 HE130 a_131 HE132 a_133 HE134 a_135 HE136
        refine nrm ?_
        refine cnd_d HE138 rfl (fun hc31 => ?_) (fun hc31 => ?_)
        · refine wp_seq ?_
          refine rg ?_
          refine pl_x HE138 HH10 (wt0 rfl) (x_assign rfl) rfl rfl fun a_139 HE140 => ?_
          refine wpList_nil ?_
          clear a_137 HE138
          refine nrm ?_
          refine wp_ret ?_
          refine (thn_ret ?_)
          refine ret1 HE140 rfl (rv_tmp rfl) ?_
          have hF : (cmpL a0 a1) = 1 := by
            rw [p21_2]; first | (rw [cmpL_end a0 a1 k (by omega) (by omega) (by omega)]; grind) | (rw [cmpL_step (by omega) (by omega)]; grind [cmpI])
          exact ⟨by first | (rw [hF] <;> rfl) | rfl | (rw [hF]; simp only [Ending.returned.injEq, Value.slice.injEq, true_and, and_true]; first | omega | (simp; done)) | (rw [hF]; simp; omega), HH10.below⟩
        · refine wp_skip ?_
          refine nrm ?_
          refine wp_seq ?_
          refine rg ?_
          refine pl_x HE138 HH10 (wt0 rfl) (x_assign rfl) rfl rfl fun a_141 HE142 => ?_
          refine wpList_nil ?_
          clear a_137 HE138
          refine nrm ?_
          refine wp_ret ?_
          refine ret1 HE142 rfl (rv_tmp rfl) ?_
          have hF : (cmpL a0 a1) = 0 := by
            rw [p21_2]; first | (rw [cmpL_end a0 a1 k (by omega) (by omega) (by omega)]; grind) | (rw [cmpL_step (by omega) (by omega)]; grind [cmpI])
          exact ⟨by first | (rw [hF] <;> rfl) | rfl | (rw [hF]; simp only [Ending.returned.injEq, Value.slice.injEq, true_and, and_true]; first | omega | (simp; done)) | (rw [hF]; simp; omega), HH10.below⟩

end Go.Proofs.Ytcfdkckchbdafaa
