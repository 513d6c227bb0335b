/- From the form's reading of an argument (DataW.trod) to the codecs of the Mem text. Names no program. -/
import Derived.Test.YthfihlfjphiihaaGreatDoorQMem
import Derived.Deep.Slices
import Derived.Deep.Fields
import Derived.ProofKit
import Derived.OpenShut
namespace Go.Proofs.YthfihlfjphiihaaGreatDoor
open Go.RowKit Go.ChangeShapes Go.WideShapes Go.Deep

/-- Whatever the form can read at type t reads by the codec E. -/
def Opens {α : Type} (P : Program) (E : Enc α) (t : TypeId) : Prop :=
  ∀ (H : Type) (enc : TypeId × Value → H) (w : World) (base : Nat) (spare : Nat → Bool) (held : Bool) (fuel : Nat) (cs : List Value) (x : DataW H × List MemPlace),
    DataW.trod enc P w base spare held fuel t cs = some x → ∃ y, E.R w (Old w) cs y
theorem lt_of_cell {w : World} {p : Addr} {v : Value} (h : w.cell? p = some v) : p.block < w.heap.size := by
  rcases Nat.lt_or_ge p.block w.heap.size with hlt | hge
  · exact hlt
  · simp [World.cell?, Array.getElem?_eq_none hge] at h
theorem i64_of_wf {n : Int} (h : (Lit.int .i64 n).wf = true) : I64 n := by
  have := bounds_i64 h
  exact this
section
variable {P : Program}
theorem opens_int {t : TypeId} (ht : P.underlying t = some (.int .i64)) : Opens P eInt t := by
  intro H enc w base spare held fuel cs x h
  obtain ⟨n, rfl, _, hw⟩ := DataW.trod_int ht h
  exact ⟨n, rfl, i64_of_wf hw⟩
theorem opens_bool {t : TypeId} (ht : P.underlying t = some .bool) : Opens P eBool t := by
  intro H enc w base spare held fuel cs x h
  obtain ⟨n, rfl, _⟩ := DataW.trod_bool ht h
  exact ⟨n, rfl⟩
theorem opens_str {t : TypeId} (ht : P.underlying t = some .string) : Opens P eStr t := by
  intro H enc w base spare held fuel cs x h
  obtain ⟨n, rfl, _, hm⟩ := DataW.trod_string ht h
  exact ⟨n, rfl, hm⟩
theorem list_choice {α : Type} {Q : Nat → α → Prop} : ∀ n, (∀ i, i < n → ∃ z, Q i z) → ∃ zs : List α, zs.length = n ∧ ∀ i z, zs[i]? = some z → Q i z
  | 0, _ => ⟨[], rfl, fun i z h => by simp at h⟩
  | n + 1, h => by
    obtain ⟨zs, hl, hz⟩ := list_choice n fun i hi => h i (by omega)
    obtain ⟨z, hq⟩ := h n (by omega)
    refine ⟨zs ++ [z], by simp [hl], fun i y hy => ?_⟩
    by_cases hi : i < n
    · rw [List.getElem?_append_left (by omega)] at hy; exact hz i y hy
    · rw [List.getElem?_append_right (by omega)] at hy
      have : i - zs.length = 0 := by
        have := (List.getElem?_eq_some_iff.1 hy).1
        simp at this; omega
      rw [this] at hy
      obtain rfl : i = n := by omega
      simp at hy; subst hy; exact hq
theorem add_none (b off k : Nat) : (⟨b, off, none⟩ : Addr).add k = ⟨b, off + k, none⟩ := by
  unfold Addr.add; split
  · next h => subst h; rfl
  · rfl
theorem opens_sl {α : Type} {E : Enc α} {t e : TypeId} (ht : P.underlying t = some (.slice e)) (hs : P.cellsOf e = E.size) (hE : Opens P E e) (hp : 0 < E.size) : Opens P (eSl E) t := by
  intro H enc w base spare held fuel cs x h
  rcases open_slice ht h with ⟨rfl, _⟩ | ⟨a, len, cap, m, n, D, Pl, rfl, _, hl, hm, hmm, _, hi⟩
  · exact ⟨[], none, 0, rfl, Sl.nil (Nat.zero_le _)⟩
  · have hlm : len ≤ m := by rw [hmm]; split <;> omega
    obtain ⟨zs, hz1, hz2⟩ := list_choice (Q := fun i z => ∃ cs', w.cells? base (a.add (i * E.size)) E.size = some cs' ∧ E.R w (Old w) cs' z) len fun i hi' => by
      obtain ⟨cs', h1, h2⟩ := hi i (by omega)
      rw [hs] at h1
      obtain ⟨z, hz⟩ := hE _ _ _ _ _ _ _ _ _ h2
      exact ⟨z, cs', h1, hz⟩
    subst hz1
    refine ⟨zs, some a, cap, rfl, hl, hm, fun hne => ?_⟩
    have hpos : 0 < zs.length := List.length_pos_iff.2 hne
    obtain ⟨b, off, spot⟩ := a
    have hspot : spot = none ∧ b < w.heap.size := by
      obtain ⟨cs', h1, h2⟩ := hz2 0 zs[0] (List.getElem?_eq_getElem hpos)
      obtain ⟨_, hc1, hc2⟩ := World.cells?_some h1
      have := hc2 0 hp
      rw [List.getElem?_eq_getElem (by omega)] at this
      rw [Nat.zero_mul] at this
      have e : (({ block := b, off := off, spot := spot } : Addr).add 0).add 0 = ⟨b, off, spot⟩ := rfl
      rw [e] at this
      exact ⟨World.cell?_spot this, lt_of_cell this⟩
    obtain ⟨rfl, hb⟩ := hspot
    refine ⟨b, off, rfl, hb, fun i z hz => ?_⟩
    obtain ⟨cs', h1, h2⟩ := hz2 i z hz
    obtain ⟨_, hc1, hc2⟩ := World.cells?_some h1
    refine ⟨cs', h2, fun j v hv => ?_⟩
    have hj := (List.getElem?_eq_some_iff.1 hv).1
    have := hc2 j (by omega)
    rw [add_none, add_none] at this
    rw [this]; exact hv

/-- The fields from offset `off` on, laid one after another. -/
def OpensAt {α : Type} (P : Program) (E : Enc α) (fs : List Field) (off : Nat) : Prop :=
  ∀ (H : Type) (enc : TypeId × Value → H) (w : World) (base : Nat) (spare : Nat → Bool) (held : Bool) (fuel : Nat) (cs : List Value),
    cs.length = E.size → (∀ f ∈ fs, ∃ x, DataW.trod enc P w base spare held fuel f.type ((cs.drop (f.offset - off)).take (P.cellsOf f.type)) = some x) → ∃ y, E.R w (Old w) cs y
theorem opensAt_last {α : Type} {E : Enc α} {f : Field} {off : Nat} (hE : Opens P E f.type) (ho : f.offset = off) (hs : P.cellsOf f.type = E.size) : OpensAt P E [f] off := by
  intro H enc w base spare held fuel cs hl h
  obtain ⟨x, hx⟩ := h f (by simp)
  rw [ho, Nat.sub_self, List.drop_zero, hs, List.take_of_length_le (by omega)] at hx
  exact hE _ _ _ _ _ _ _ _ _ hx
theorem opensAt_cons {α β : Type} {E : Enc α} {F : Enc β} {f : Field} {fs : List Field} {off : Nat} (hE : Opens P E f.type) (ho : f.offset = off) (hs : P.cellsOf f.type = E.size)
    (hoff : ∀ g ∈ fs, off + E.size ≤ g.offset) (hF : OpensAt P F fs (off + E.size)) : OpensAt P (ePr E F) (f :: fs) off := by
  intro H enc w base spare held fuel cs hl h
  have hl' : cs.length = E.size + F.size := hl
  obtain ⟨x, hx⟩ := h f (by simp)
  rw [ho, Nat.sub_self, List.drop_zero, hs] at hx
  obtain ⟨y, hy⟩ := hE _ _ _ _ _ _ _ _ _ hx
  obtain ⟨z, hz⟩ := hF H enc w base spare held fuel (cs.drop E.size) (by simp; omega) fun g hg => by
    obtain ⟨x', hx'⟩ := h g (by simp [hg])
    refine ⟨x', ?_⟩
    have := hoff g hg
    rw [List.drop_drop, show E.size + (g.offset - (off + E.size)) = g.offset - off from by omega]
    exact hx'
  exact ⟨(y, z), _, _, (List.take_append_drop E.size cs).symm, hy, hz⟩
theorem opens_struct {α : Type} {E : Enc α} {t : TypeId} {fs : Array Field} (ht : P.underlying t = some (.struct fs)) (hs : P.cellsOf t = E.size) (h : OpensAt P E fs.toList 0) : Opens P E t := by
  intro H enc w base spare held fuel cs x hx
  obtain ⟨xs, n, _, _, hlen, hxl, hf⟩ := DataW.trod_struct ht hx
  refine h H enc w base spare held n cs (by omega) fun f hmem => ?_
  obtain ⟨i, hi, he⟩ := List.getElem_of_mem hmem
  have hi' : i < fs.size := by simpa using hi
  have h1 := hf i f (by rw [Array.getElem?_eq_getElem hi']; congr 1)
  rw [List.getElem?_eq_getElem (by omega)] at h1
  exact ⟨_, by rw [Nat.sub_zero]; exact h1⟩
end
end Go.Proofs.YthfihlfjphiihaaGreatDoor
