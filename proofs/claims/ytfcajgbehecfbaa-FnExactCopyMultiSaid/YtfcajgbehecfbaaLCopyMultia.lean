/- What the proof of FnExactCopyMulti needs: contracts of the functions that it reaches, each once. -/
import Derived.Test.YtfcajgbehecfbaaProg
import Derived.Test.YtfcajgbehecfbaaQMem
import Derived.Test.YtfcajgbehecfbaaQOpen
import Derived.WalkKit
import Derived.WalkSpells
import Derived.Below
import Derived.LoopTactic
import Derived.Outline
import Derived.Deep.QuietTactic
import Derived.BigQuiet
import Derived.Deep.LoopGhost
import Derived.Handy
import Derived.Lib.Hide
import Derived.Shelf.Abstract
import Derived.StillTailTactics
import Derived.OwnWalk
import Derived.Maps.AppendAt
import Derived.RegionTactic
import Derived.Deep.RegionHeld3
import Derived.IntWalk
import Derived.Deep.Upon
import Derived.Laws.OwnMore
import Derived.Maps.AppendAt
import Derived.Lib.SliceRun
import Derived.Lib.AppendZeros
namespace Go.Proofs.Ytfcajgbehecfbaa
open Go.RowKit

def lk (t : Nat) : List (Nat × Value) → Option Value
  | [] => none
  | (i, v) :: L => bif Nat.beq t i then some v else lk t L

/-- The slots L are known. -/
structure Env (n : Nat) (L : List (Nat × Value)) (a : Act) : Prop where
  defers : a.defers = []
  size : a.tmps.size = n
  get : ∀ t v, lk t L = some v → a.tmps.getD t undef = v

def ev (L : List (Nat × Value)) : Operand → Option Value
  | .tmp t => lk t L
  | .const v => some v
  | .global g => some (.pointer (some ⟨g, 0, none⟩))
  | .func f => some (.func (.func f) #[] #[])

theorem Env.ev {n : Nat} {L : List (Nat × Value)} {a : Act} {x : Operand} {v : Value} (h : Env n L a) (hx : ev L x = some v) : a.eval x = v := by
  cases x with
  | tmp t => exact h.get t v hx
  | const u => simpa [Go.Proofs.Ytfcajgbehecfbaa.ev, Act.eval] using hx
  | global g => simpa [Go.Proofs.Ytfcajgbehecfbaa.ev, Act.eval] using hx
  | func f => simpa [Go.Proofs.Ytfcajgbehecfbaa.ev, Act.eval] using hx

theorem Env.put {n : Nat} {L : List (Nat × Value)} {a : Act} {d : Nat} (h : Env n L a) (hd : Nat.blt d n = true) (v : Value) : Env n ((d, v) :: L) (a.put (some d) v) where
  defers := h.defers
  size := by simpa [Act.put] using h.size
  get := by
    intro t u hu
    have hlt : d < a.tmps.size := by rw [h.size]; exact Nat.blt_eq ▸ hd
    simp only [lk] at hu
    by_cases e : t = d
    · subst e
      simp at hu
      subst hu
      simp [Act.put, Array.getElem?_setIfInBounds_self_of_lt hlt]
    · have e' : Nat.beq t d = false := Bool.eq_false_iff.2 fun h => e (Nat.eq_of_beq_eq_true h)
      rw [e'] at hu
      have := h.get t u hu
      simpa [Act.put, Array.getElem?_setIfInBounds_ne (fun h => e h.symm)] using this

def subE (L : List (Nat × Value)) : List (Nat × Value) → Prop
  | [] => True
  | p :: K => lk p.1 L = some p.2 ∧ subE L K

theorem Env.sub {n : Nat} {L K : List (Nat × Value)} {a : Act} (h : Env n L a) (hs : subE L K) : Env n K a where
  defers := h.defers
  size := h.size
  get := by
    intro t v hv
    refine h.get t v ?_
    clear h
    induction K with
    | nil => cases hv
    | cons p K ih =>
      obtain ⟨i, u⟩ := p
      simp only [lk] at hv
      by_cases e : Nat.beq t i = true
      · rw [e] at hv
        have e' := Nat.eq_of_beq_eq_true e
        simp at hv
        rw [e', hs.1, hv]
      · have e' : Nat.beq t i = false := Bool.eq_false_iff.2 e
        rw [e'] at hv
        exact ih hs.2 hv

theorem Env.sub' {n : Nat} {L K : List (Nat × Value)} {a : Act} (h : Env n L a) (hs : ∀ t v, lk t K = some v → lk t L = some v) : Env n K a := ⟨h.defers, h.size, fun t v hv => h.get t v (hs t v hv)⟩

theorem Env.start {n : Nat} {vs : List Value} {L : List (Nat × Value)} (hL : ∀ t v, lk t L = some v → vs[t]? = some v) (hn : vs.length ≤ n) : Env n L { tmps := vs.toArray ++ Array.replicate (n - vs.toArray.size) undef, defers := [] } where
  defers := rfl
  size := by simp; omega
  get := by
    intro t v hv
    have h1 := hL t v hv
    have h2 := (List.getElem?_eq_some_iff.1 h1).1
    simp only [Array.getD_eq_getD_getElem?, Array.getElem?_append, List.size_toArray, h2, if_true, List.getElem?_toArray, h1, Option.getD_some]

/-- A part of the memory that is held: its blocks, and what is known of them. -/
structure Res where
  S : Nat → Prop
  φ : World → Prop
  loc : ∀ w w' : World, (∀ b, S b → w'.heap[b]? = w.heap[b]?) → φ w → φ w'

/-- Since w0 nothing has changed but blocks of M; the parts rs are held, apart from one another, in M or in new blocks. -/
structure Held (M : Nat → Prop) (w0 : World) (rs : List Res) (w : World) : Prop where
  chg : Chg M w0 w
  ok : ∀ r ∈ rs, r.φ w
  rng : ∀ r ∈ rs, ∀ b, r.S b → (M b ∨ w0.heap.size ≤ b) ∧ b < w.heap.size
  sep : rs.Pairwise fun r s => ∀ b, r.S b → ¬ s.S b

/-- No block. -/
def Nob : Nat → Prop := fun _ => False

def rBlk (g : Nat) (t : TypeId) (cs : List Value) : Res := ⟨fun b => b = g, fun w => Blk w g t cs.toArray, fun _ _ h hb => (h g rfl).trans hb⟩

def rO {α : Type} (E : Enc α) (S : Nat → Prop) (cs : List Value) (x : α) : Res := ⟨S, fun w => E.O w S cs x, fun _ _ h ho => E.okeep ho h⟩

/-- An owned slice. -/
abbrev rSo {α : Type} (E : Enc α) (S : Nat → Prop) (A : Option Addr) (c : Nat) (xs : List α) : Res := rO (eSl E) S [.slice A xs.length c] xs

theorem Held.start (M : Nat → Prop) (w : World) : Held M w [] w := ⟨Chg.refl _ _, (fun _ h => by cases h), (fun _ h => by cases h), List.Pairwise.nil⟩

theorem Held.below {w0 : World} {rs : List Res} {w : World} (h : Held Nob w0 rs w) : Below w0.heap.size w0 w := h.chg.below (Nat.le_refl _) fun _ h => h.elim

theorem Held.size {M : Nat → Prop} {w0 : World} {rs : List Res} {w : World} (h : Held M w0 rs w) : w0.heap.size ≤ w.heap.size := h.chg.size

theorem Held.get {M : Nat → Prop} {w0 : World} {rs : List Res} {w : World} (h : Held M w0 rs w) {i : Nat} {r : Res} (hi : rs[i]? = some r) : r.φ w := h.ok r (List.mem_of_getElem? hi)

theorem Held.drew {M : Nat → Prop} {w0 : World} {rs : List Res} {w : World} (h : Held M w0 rs w) : Held M w0 rs w.drew := ⟨h.chg.drew, fun r hr => r.loc w _ (fun _ _ => rfl) (h.ok r hr), h.rng, h.sep⟩

theorem Held.on {M : Nat → Prop} {w0 : World} {rs : List Res} {w w' : World} (h : Held M w0 rs w) (hb : Below w.heap.size w w') : Held M w0 rs w' where
  chg := h.chg.trans (.of_below hb)
  ok := fun r hr => r.loc _ _ (fun b hS => hb.block b (h.rng r hr b hS).2) (h.ok r hr)
  rng := fun r hr b hS => ⟨(h.rng r hr b hS).1, Nat.lt_of_lt_of_le (h.rng r hr b hS).2 hb.size⟩
  sep := h.sep

/-- A call has made r. -/
theorem Held.new {M : Nat → Prop} {w0 : World} {rs : List Res} {w w' : World} (h : Held M w0 rs w) (hb : Below w.heap.size w w') (r : Res) (hr : r.φ w') (hS : ∀ b, r.S b → w.heap.size ≤ b ∧ b < w'.heap.size) : Held M w0 (r :: rs) w' where
  chg := (h.on hb).chg
  ok := by
    intro s hs
    rcases List.mem_cons.1 hs with rfl | hs
    · exact hr
    · exact (h.on hb).ok s hs
  rng := by
    intro s hs
    rcases List.mem_cons.1 hs with rfl | hs
    · exact fun b hb' => ⟨.inr (Nat.le_trans h.size (hS b hb').1), (hS b hb').2⟩
    · exact (h.on hb).rng s hs
  sep := List.pairwise_cons.2 ⟨fun s hs b hb1 hb2 => by have h1 := (hS b hb1).1; have h2 := (h.rng s hs b hb2).2; omega, h.sep⟩

theorem Held.newO {M : Nat → Prop} {w0 : World} {rs : List Res} {w w' : World} {α : Type} {E : Enc α} {cs : List Value} {x : α} (h : Held M w0 rs w) (hb : Below w.heap.size w w') (ho : E.O w' (Fr w w') cs x) : ∃ S, Held M w0 (rO E S cs x :: rs) w' :=
  ⟨Fr w w', h.new hb (rO E (Fr w w') cs x) ho fun _ h => h⟩

theorem Held.newS {M : Nat → Prop} {w0 : World} {rs : List Res} {w w' : World} {α : Type} {E : Enc α} {A : Option Addr} {c : Nat} {xs : List α} (h : Held M w0 rs w) (hb : Below w.heap.size w w') (ho : So E w' (Fr w w') A c xs) : ∃ S, Held M w0 (rSo E S A c xs :: rs) w' := h.newO hb (oSl ho)

theorem Held.alloc {M : Nat → Prop} {w0 : World} {rs : List Res} {w : World} (h : Held M w0 rs w) (t : TypeId) (cs : List Value) : Held M w0 (rBlk w.heap.size t cs :: rs) (w.alloc (.cells cs.toArray t)) :=
  h.new ((Below.refl _ _).alloc (Nat.le_refl _) _) (rBlk w.heap.size t cs) (Blk.new w t cs.toArray) fun b (hb : b = _) => by subst hb; simp

def pick (rs : List Res) : List Nat → Option (List Res)
  | [] => some []
  | i :: is => match rs[i]?, pick rs is with
    | some r, some q => some (r :: q)
    | _, _ => none

theorem pick_get {rs rs' : List Res} {is : List Nat} (h : pick rs is = some rs') : ∀ (k : Nat) (r : Res), rs'[k]? = some r → ∃ i, is[k]? = some i ∧ rs[i]? = some r := by
  induction is generalizing rs' with
  | nil => simp [pick] at h; subst h; intro k r hr; simp at hr
  | cons i is ih =>
    simp only [pick] at h
    cases hi : rs[i]? with
    | none => simp [hi] at h
    | some r0 =>
      cases hm : pick rs is with
      | none => simp [hi, hm] at h
      | some rs2 =>
        simp [hi, hm] at h
        subst h
        intro k r hr
        rcases k with _ | k
        · simp at hr; subst hr; exact ⟨i, rfl, hi⟩
        · simp at hr; exact ih hm k r hr

theorem sep_at {rs : List Res} (h : rs.Pairwise fun r s => ∀ b, r.S b → ¬ s.S b) {i j : Nat} {r s : Res} (hi : rs[i]? = some r) (hj : rs[j]? = some s) (hij : i ≠ j) : ∀ b, r.S b → ¬ s.S b := by
  obtain ⟨li, rfl⟩ := List.getElem?_eq_some_iff.1 hi
  obtain ⟨lj, rfl⟩ := List.getElem?_eq_some_iff.1 hj
  rw [List.pairwise_iff_getElem] at h
  rcases Nat.lt_or_gt_of_ne hij with hlt | hlt
  · exact h i j li lj hlt
  · exact fun b h1 h2 => h j i lj li hlt b h2 h1

/-- Some of the parts, in another order. -/
theorem Held.sel {M : Nat → Prop} {w0 : World} {rs : List Res} {w : World} (h : Held M w0 rs w) (is : List Nat) {rs' : List Res} (hn : is.Nodup) (hs : pick rs is = some rs') : Held M w0 rs' w where
  chg := h.chg
  ok := by
    intro r hr
    obtain ⟨k, hk⟩ := List.mem_iff_getElem?.1 hr
    obtain ⟨i, _, hi⟩ := pick_get hs k r hk
    exact h.get hi
  rng := by
    intro r hr
    obtain ⟨k, hk⟩ := List.mem_iff_getElem?.1 hr
    obtain ⟨i, _, hi⟩ := pick_get hs k r hk
    exact h.rng r (List.mem_of_getElem? hi)
  sep := by
    rw [List.pairwise_iff_getElem]
    intro k l lk ll hkl
    obtain ⟨i, h1, hi⟩ := pick_get hs k _ (List.getElem?_eq_getElem lk)
    obtain ⟨j, h2, hj⟩ := pick_get hs l _ (List.getElem?_eq_getElem ll)
    refine sep_at h.sep hi hj ?_
    rintro rfl
    obtain ⟨l1, e1⟩ := List.getElem?_eq_some_iff.1 h1
    obtain ⟨l2, e2⟩ := List.getElem?_eq_some_iff.1 h2
    have := List.pairwise_iff_getElem.1 hn k l l1 l2 hkl
    exact this (e1.trans e2.symm)

/-- What was there at the start, outside M, reads so still. -/
theorem Held.cell0 {M : Nat → Prop} {w0 : World} {rs : List Res} {w : World} (h : Held M w0 rs w) {p : Addr} (hp : p.block < w0.heap.size) (hM : ¬ M p.block) : w.cell? p = w0.cell? p := World.cell?_of_block (w := w0) (h.chg.block p.block hp hM)

theorem Held.old {w0 : World} {rs : List Res} {w : World} {α : Type} {E : Enc α} {A : Option Addr} {c : Nat} {xs : List α} (h : Held Nob w0 rs w) (hs : Sl E w0 (Old w0) A c xs) : Sl E w (Old w) A c xs := hs.on h.below

theorem Held.oldR {w0 : World} {rs : List Res} {w : World} {α : Type} {E : Enc α} {cs : List Value} {x : α} (h : Held Nob w0 rs w) (hs : E.R w0 (Old w0) cs x) : E.R w (Old w) cs x := E.on hs h.below

theorem Held.rd {M : Nat → Prop} {w0 : World} {rs : List Res} {w : World} {α : Type} {E : Enc α} {S : Nat → Prop} {cs : List Value} {x : α} (h : Held M w0 rs w) {i : Nat} (hi : rs[i]? = some (rO E S cs x)) : E.R w (Old w) cs x :=
  E.more (E.read (h.get hi)) fun b hb => (h.rng _ (List.mem_of_getElem? hi) b hb).2

theorem so_of_o {α : Type} {E : Enc α} {w : World} {S : Nat → Prop} {A : Option Addr} {c : Nat} {xs : List α} (h : (eSl E).O w S [.slice A xs.length c] xs) : So E w S A c xs := by
  obtain ⟨A', c', he, hs⟩ := h
  simp only [List.cons.injEq, Value.slice.injEq, and_true, true_and] at he
  obtain ⟨rfl, rfl⟩ := he
  exact hs

theorem sl_of_r {α : Type} {E : Enc α} {w : World} {S : Nat → Prop} {A : Option Addr} {c : Nat} {xs : List α} (h : (eSl E).R w S [.slice A xs.length c] xs) : Sl E w S A c xs := by
  obtain ⟨A', c', he, hs⟩ := h
  simp only [List.cons.injEq, Value.slice.injEq, and_true, true_and] at he
  obtain ⟨rfl, rfl⟩ := he
  exact hs

theorem Held.sl {M : Nat → Prop} {w0 : World} {rs : List Res} {w : World} {α : Type} {E : Enc α} {S : Nat → Prop} {A : Option Addr} {c : Nat} {xs : List α} (h : Held M w0 rs w) {i : Nat} (hi : rs[i]? = some (rSo E S A c xs)) : Sl E w (Old w) A c xs := sl_of_r (h.rd hi)

theorem Held.so {w0 : World} {rs : List Res} {w : World} {α : Type} {E : Enc α} {S : Nat → Prop} {A : Option Addr} {c : Nat} {xs : List α} (h : Held Nob w0 rs w) {i : Nat} (hi : rs[i]? = some (rSo E S A c xs)) : So E w (Fr w0 w) A c xs :=
  (so_of_o (h.get hi)).more fun b hb => by
    have h1 := h.rng _ (List.mem_of_getElem? hi) b hb
    exact ⟨h1.1.resolve_left fun h => h.elim, h1.2⟩

theorem Held.o {w0 : World} {rs : List Res} {w : World} {α : Type} {E : Enc α} {S : Nat → Prop} {cs : List Value} {x : α} (h : Held Nob w0 rs w) {i : Nat} (hi : rs[i]? = some (rO E S cs x)) : E.O w (Fr w0 w) cs x :=
  E.omore (h.get hi) fun b hb => by
    have h1 := h.rng _ (List.mem_of_getElem? hi) b hb
    exact ⟨h1.1.resolve_left fun h => h.elim, h1.2⟩

/-- Part i is rewritten: only its blocks have changed, and new ones have come. -/
theorem Held.mut {M : Nat → Prop} {w0 : World} {rs : List Res} {w w' : World} (h : Held M w0 rs w) {i : Nat} {r : Res} (hi : rs[i]? = some r) (hc : Chg r.S w w') (r' : Res) (hr : r'.φ w') (hS : ∀ b, r'.S b → r.S b ∨ (w.heap.size ≤ b ∧ b < w'.heap.size)) : Held M w0 (rs.set i r') w' where
  chg := by
    refine ⟨hc.os.trans h.chg.os, hc.tape.trans h.chg.tape, hc.output.trans h.chg.output, Nat.le_trans h.chg.size hc.size, fun k hk hM => ?_⟩
    refine (hc.block k (Nat.lt_of_lt_of_le hk h.chg.size) fun hS' => ?_).trans (h.chg.block k hk hM)
    rcases (h.rng r (List.mem_of_getElem? hi) k hS').1 with h1 | h1
    · exact hM h1
    · omega
  ok := by
    intro s hs
    obtain ⟨j, hj⟩ := List.mem_iff_getElem?.1 hs
    by_cases e : i = j
    · subst e
      rw [List.getElem?_set_self (List.getElem?_eq_some_iff.1 hi).1] at hj
      simp at hj; subst hj; exact hr
    · rw [List.getElem?_set_ne e] at hj
      refine s.loc _ _ (fun b hb => hc.block b (h.rng s (List.mem_of_getElem? hj) b hb).2 fun hb' => sep_at h.sep hi hj e b hb' hb) (h.get hj)
  rng := by
    intro s hs b hb
    obtain ⟨j, hj⟩ := List.mem_iff_getElem?.1 hs
    by_cases e : i = j
    · subst e
      rw [List.getElem?_set_self (List.getElem?_eq_some_iff.1 hi).1] at hj
      simp at hj; subst hj
      rcases hS b hb with h1 | h1
      · have h2 := h.rng r (List.mem_of_getElem? hi) b h1
        exact ⟨h2.1, Nat.lt_of_lt_of_le h2.2 hc.size⟩
      · exact ⟨.inr (Nat.le_trans h.size h1.1), h1.2⟩
    · rw [List.getElem?_set_ne e] at hj
      have h2 := h.rng s (List.mem_of_getElem? hj) b hb
      exact ⟨h2.1, Nat.lt_of_lt_of_le h2.2 hc.size⟩
  sep := by
    have key : ∀ (j : Nat) (s : Res), i ≠ j → rs[j]? = some s → ∀ b, r'.S b → ¬ s.S b := by
      intro j s e hj b hb hb'
      rcases hS b hb with h1 | h1
      · exact sep_at h.sep hi hj e b h1 hb'
      · have := (h.rng s (List.mem_of_getElem? hj) b hb').2; omega
    rw [List.pairwise_iff_getElem]
    intro k l lk ll hkl b hb hb'
    have lk' : k < rs.length := by simpa using lk
    have ll' : l < rs.length := by simpa using ll
    by_cases e1 : i = k
    · subst e1
      rw [List.getElem_set_self] at hb
      rw [List.getElem_set_ne (by omega)] at hb'
      exact key l _ (by omega) (List.getElem?_eq_getElem ll') b hb hb'
    · by_cases e2 : i = l
      · subst e2
        rw [List.getElem_set_self] at hb'
        rw [List.getElem_set_ne (by omega)] at hb
        exact key k _ e1 (List.getElem?_eq_getElem lk') b hb' hb
      · rw [List.getElem_set_ne e1] at hb
        rw [List.getElem_set_ne e2] at hb'
        exact List.pairwise_iff_getElem.1 h.sep k l lk' ll' hkl b hb hb'

theorem Held.set {M : Nat → Prop} {w0 : World} {rs : List Res} {w : World} (h : Held M w0 rs w) {i : Nat} {g : Nat} {t : TypeId} {cs : List Value} (hi : rs[i]? = some (rBlk g t cs)) (o : Nat) (v : Value) : Held M w0 (rs.set i (rBlk g t (cs.set o v))) (w.setCell ⟨g, o, none⟩ v) := by
  refine h.mut hi ((Chg.refl _ _).set (by exact rfl) _) (rBlk g t (cs.set o v)) ?_ fun b hb => .inl hb
  have := Blk.set (h.get hi) o v
  have e : cs.toArray.setIfInBounds o v = (cs.set o v).toArray := by simp
  rw [e] at this
  exact this

/-- Two parts become one. -/
theorem Held.join {M : Nat → Prop} {w0 : World} {r s : Res} {rs : List Res} {w : World} (h : Held M w0 (r :: s :: rs) w) (q : Res) (hq : r.φ w → s.φ w → (∀ b, r.S b → ¬ s.S b) → q.φ w) (hS : ∀ b, q.S b → r.S b ∨ s.S b) : Held M w0 (q :: rs) w where
  chg := h.chg
  ok := by
    intro x hx
    rcases List.mem_cons.1 hx with rfl | hx
    · exact hq (h.ok r (by simp)) (h.ok s (by simp)) ((List.pairwise_cons.1 h.sep).1 s (by simp))
    · exact h.ok x (by simp [hx])
  rng := by
    intro x hx b hb
    rcases List.mem_cons.1 hx with rfl | hx
    · rcases hS b hb with h1 | h1
      · exact h.rng r (by simp) b h1
      · exact h.rng s (by simp) b h1
    · exact h.rng x (by simp [hx]) b hb
  sep := by
    have h1 := List.pairwise_cons.1 h.sep
    have h2 := List.pairwise_cons.1 h1.2
    refine List.pairwise_cons.2 ⟨fun x hx b hb hb' => ?_, h2.2⟩
    rcases hS b hb with h3 | h3
    · exact h1.1 x (by simp [hx]) b h3 hb'
    · exact h2.1 x hx b h3 hb'

/-- One part turned into another over the same blocks. -/
theorem Held.turn {M : Nat → Prop} {w0 : World} {r : Res} {rs : List Res} {w : World} (h : Held M w0 (r :: rs) w) (q : Res) (hq : r.φ w → q.φ w) (hS : ∀ b, q.S b → r.S b) : Held M w0 (q :: rs) w where
  chg := h.chg
  ok := by
    intro x hx
    rcases List.mem_cons.1 hx with rfl | hx
    · exact hq (h.ok r (by simp))
    · exact h.ok x (by simp [hx])
  rng := by
    intro x hx b hb
    rcases List.mem_cons.1 hx with rfl | hx
    · exact h.rng r (by simp) b (hS b hb)
    · exact h.rng x (by simp [hx]) b hb
  sep := by
    have h1 := List.pairwise_cons.1 h.sep
    exact List.pairwise_cons.2 ⟨fun x hx b hb hb' => h1.1 x hx b (hS b hb) hb', h1.2⟩

theorem Held.pair {M : Nat → Prop} {w0 : World} {rs : List Res} {w : World} {α β : Type} {E : Enc α} {F : Enc β} {S1 S2 : Nat → Prop} {c1 c2 : List Value} {x : α} {y : β} (h : Held M w0 (rO E S1 c1 x :: rO F S2 c2 y :: rs) w) : Held M w0 (rO (ePr E F) (fun b => S1 b ∨ S2 b) (c1 ++ c2) (x, y) :: rs) w :=
  h.join _ (fun h1 h2 hd => ⟨c1, c2, S1, S2, rfl, fun b hb => ⟨.inl hb, hd b hb⟩, fun b hb => .inr hb, h1, h2⟩) fun _ hb => hb

/-- A flat part in front. -/
theorem Held.pairF {M : Nat → Prop} {w0 : World} {rs : List Res} {w : World} {α β : Type} {E : Enc α} {F : Enc β} {S : Nat → Prop} {c1 c2 : List Value} {x : α} {y : β} (h : Held M w0 (rO F S c2 y :: rs) w) (hx : E.O w Nob c1 x) : Held M w0 (rO (ePr E F) S (c1 ++ c2) (x, y) :: rs) w :=
  h.turn _ (fun h2 => ⟨c1, c2, Nob, S, rfl, fun b hb => hb.elim, fun b hb => hb, hx, h2⟩) fun _ hb => hb

/-- A flat part behind. -/
theorem Held.pairB {M : Nat → Prop} {w0 : World} {rs : List Res} {w : World} {α β : Type} {E : Enc α} {F : Enc β} {S : Nat → Prop} {c1 c2 : List Value} {x : α} {y : β} (h : Held M w0 (rO E S c1 x :: rs) w) (hy : F.O w Nob c2 y) : Held M w0 (rO (ePr E F) S (c1 ++ c2) (x, y) :: rs) w :=
  h.turn _ (fun h2 => ⟨c1, c2, S, Nob, rfl, fun b hb => ⟨hb, fun h => h⟩, fun b hb => hb.elim, h2, hy⟩) fun _ hb => hb

/-- In every world that meets S, operation o yields v and does nothing else. -/
def XS (P : Program) (S : World → Prop) (L : List (Nat × Value)) (o : Oper) (v : Value) : Prop :=
  ∀ (n : Nat) (a : Act) (w : World), Env n L a → S w → (execOp a.eval o).run P w = .ok (.value v) w

abbrev Stp (P : Program) (ops : Array Oper) (Q : Exit → Act → World → Prop) (o : Oper) (a : Act) (w : World) (K : Act → World → Prop) : Prop :=
  if Region.wanted o (yielded ops a.tmps) = true then Oper.wp P o a w K Q else K (a.put o.dst undef) w

theorem wt0 {o : Oper} {ops : Array Oper} {a : Act} (hg : o.guard = none) : Region.wanted o (yielded ops a.tmps) = true := by simp [Region.wanted, hg]

theorem yielded_at {n : Nat} {L : List (Nat × Value)} {a : Act} {ops : Array Oper} {g t : Nat} {b : Bool} (hE : Env n L a) (ht : (ops[g]?).bind (·.dst) = some t) (hl : lk t L = some (.bool b)) : yielded ops a.tmps g = some b := by
  have h := hE.get t _ hl
  have hsz : a.tmps[t]? = some (.bool b) := by
    rw [Array.getD_eq_getD_getElem?] at h
    cases h' : a.tmps[t]? with
    | none => rw [h'] at h; simp [undef] at h
    | some v => rw [h'] at h; simp at h; rw [h]
  simp [yielded, ht, hsz]

theorem wtT {n : Nat} {L : List (Nat × Value)} {a : Act} {o : Oper} {ops : Array Oper} {g t : Nat} {b want : Bool} (hE : Env n L a) (hg : o.guard = some (g, want)) (ht : (ops[g]?).bind (·.dst) = some t) (hl : lk t L = some (.bool b)) (hb : b = want) : Region.wanted o (yielded ops a.tmps) = true := by
  simp [Region.wanted, hg, yielded_at hE ht hl, hb]

theorem st_val {P : Program} {ops : Array Oper} {Q : Exit → Act → World → Prop} {o : Oper} {a : Act} {w w' : World} {K : Act → World → Prop} {n d : Nat} {L : List (Nat × Value)} {v : Value} (hE : Env n L a) (hw : Region.wanted o (yielded ops a.tmps) = true) (hr : (execOp a.eval o).run P w = .ok (.value v) w') (hd : o.dst = some d) (hn : Nat.blt d n = true)
    (k : ∀ a', Env n ((d, v) :: L) a' → K a' w') : Stp P ops Q o a w K := by
  unfold Stp; rw [if_pos hw]; unfold Oper.wp; rw [hr]; simp only [Oper.upon]; rw [hd]; exact k _ (hE.put hn v)

theorem st_x {P : Program} {S : World → Prop} {ops : Array Oper} {Q : Exit → Act → World → Prop} {o : Oper} {a : Act} {w : World} {K : Act → World → Prop} {n d : Nat} {L : List (Nat × Value)} {v : Value} (hE : Env n L a) (hS : S w) (hw : Region.wanted o (yielded ops a.tmps) = true) (hx : XS P S L o v) (hd : o.dst = some d) (hn : Nat.blt d n = true)
    (k : ∀ a', Env n ((d, v) :: L) a' → K a' w) : Stp P ops Q o a w K := st_val hE hw (hx _ _ _ hE hS) hd hn k

theorem st_skip {P : Program} {ops : Array Oper} {Q : Exit → Act → World → Prop} {o : Oper} {a : Act} {w w' : World} {K : Act → World → Prop} (hw : Region.wanted o (yielded ops a.tmps) = true) (hr : (execOp a.eval o).run P w = .ok .skip w') (hd : o.dst = none)
    (k : K a w') : Stp P ops Q o a w K := by
  unfold Stp; rw [if_pos hw]; unfold Oper.wp; rw [hr]; simp only [Oper.upon]; rw [hd]; exact k

def evs (L : List (Nat × Value)) : List Operand → Option (List Value)
  | [] => some []
  | x :: xs => match ev L x, evs L xs with
    | some v, some vs => some (v :: vs)
    | _, _ => none

theorem evs_map {n : Nat} {L : List (Nat × Value)} {a : Act} (hE : Env n L a) : ∀ (xs : List Operand) (vs : List Value), evs L xs = some vs → xs.map a.eval = vs
  | [], vs, h => by simp [evs] at h; subst h; rfl
  | x :: xs, vs, h => by
    simp only [evs] at h
    cases h1 : ev L x with
    | none => simp [h1] at h
    | some v =>
      cases h2 : evs L xs with
      | none => simp [h1, h2] at h
      | some us =>
        simp [h1, h2] at h
        subst h
        rw [List.map_cons, hE.ev h1, evs_map hE xs us h2]

/-- A call of a Go function by its contract. -/
theorem st_call {P : Program} {ops : Array Oper} {Q : Exit → Act → World → Prop} {o : Oper} {a : Act} {w : World} {K : Act → World → Prop} {n d F : Nat} {L : List (Nat × Value)} {f : Operand} {xs : List Operand} {ts : Array TypeId} {vs : List Value} {R : Ending → World → Prop}
    (hE : Env n L a) (hw : Region.wanted o (yielded ops a.tmps) = true) (ho : o.op = .call { callee := .value f, args := xs.toArray, argTypes := ts }) (hf : ev L f = some (.func (.func F) #[] #[])) (hx : evs L xs = some vs)
    (hen : ∀ args w, (callFunc F args).run P w = .ok (.enter F args) w) (hd : o.dst = some d) (hn : Nat.blt d n = true) (hc : Calls P F vs.toArray w R)
    (k : ∀ e w', R e w' → ∃ v, e = .returned v ∧ ∀ a', Env n ((d, v) :: L) a' → K a' w') : Stp P ops Q o a w K := by
  unfold Stp; rw [if_pos hw]; unfold Oper.wp
  have hr : (execOp a.eval o).run P w = .ok (.enter F vs.toArray) w := by
    unfold execOp
    simp only [ho, resolve, hE.ev hf, Deferred.ofValue, Sem.run_bind, Sem.run_pure, Result.andThen_ok, invoke, List.map_toArray, evs_map hE xs vs hx]
    simpa using hen vs.toArray w
  rw [hr]; simp only [Oper.upon]; rw [hd]
  refine hc.mono fun e w' hR => ?_
  obtain ⟨v, rfl, h⟩ := k e w' hR
  exact h _ (hE.put hn v)

theorem rg {P : Program} {Q : Exit → Act → World → Prop} {a : Act} {w : World} {id : Nat} {l : List Oper} (h : wpList P l.toArray Q l a w) : (Code.region id l.toArray false).wp P Q a w := wp_region_lit h

theorem dr_start {P : Program} {ops : Array Oper} {Q : Exit → Act → World → Prop} {a : Act} {w : World} {id : Nat} {M : Nat → Prop} {w0 : World} {rs : List Res} (S : World → Prop) (m : Nat) (ls : Array Bool) (hm : P.follows .mixedOrders = true) (hz : ops.size = m) (hls : Array.replicate m false = ls) (hH : Held M w0 rs w) (hS : ∀ w, Held M w0 rs w → S w)
    (k : ∀ w', Held M w0 rs w' → wpAnyH P .any ops Q S m ls a w') : (Code.region id ops true).wp P Q a w := by
  refine wp_region_held_drew (S := S) hm (hS _ hH.drew) fun _ => ?_
  rw [hz, hls]; exact k _ hH.drew

theorem dr_take {P : Program} {ops : Array Oper} {Q : Exit → Act → World → Prop} {a : Act} {w : World} {S : World → Prop} {m : Nat} {ls ls' : Array Bool} {i n d : Nat} {o : Oper} {v : Value} {L : List (Nat × Value)} (hE : Env n L a) (hS : S w) (hi : ops[i]? = some o) (hs : Region.noSelect ops = true) (hf : Region.free .any ops ls i = true) (hr : (Region.ready .any ops ls).contains i = true)
    (hQ : ∀ c a w, Q (.panic c) (a.put o.dst v) w → Q (.panic c) a w) (hls : ls.setIfInBounds i true = ls') (hw : Region.wanted o (yielded ops a.tmps) = true) (hx : XS P S L o v) (hd : o.dst = some d) (hn : Nat.blt d n = true)
    (k : ∀ a', Env n ((d, v) :: L) a' → wpAnyH P .any ops Q S m ls' a' w) : wpAnyH P .any ops Q S (m + 1) ls a w := by
  refine wpAnyH_take hi hs hf hr hQ (.inl ⟨hw, fun w hS => hx _ _ _ hE hS⟩) hS ?_
  rw [hls, hd]; exact k _ (hE.put hn v)

theorem dr_one {P : Program} {ops : Array Oper} {Q : Exit → Act → World → Prop} {a : Act} {w : World} {S : World → Prop} {m : Nat} {ls ls' : Array Bool} {i : Nat} {o : Oper} (hi : ops[i]? = some o) (hr : Region.ready .any ops ls = [i]) (hls : ls.setIfInBounds i true = ls')
    (k : ∀ K : Act → World → Prop, (∀ a w, S w → wpAnyH P .any ops Q S m ls' a w → K a w) → Stp P ops Q o a w K) : wpAnyH P .any ops Q S (m + 1) ls a w := by
  subst hls
  exact wpAnyH_ready hr (by simp) (AllReadyH.cons hi (fun K hK => k K fun a w hS hW => hK.out a w hS fun _ => hW) AllReadyH.nil)

theorem dr_two {P : Program} {ops : Array Oper} {Q : Exit → Act → World → Prop} {a : Act} {w : World} {S : World → Prop} {m : Nat} {ls ls' ls'' : Array Bool} {i j : Nat} {o o' : Oper} (hi : ops[i]? = some o) (hj : ops[j]? = some o') (hr : Region.ready .any ops ls = [i, j]) (hls : ls.setIfInBounds i true = ls') (hls' : ls.setIfInBounds j true = ls'')
    (k : ∀ K : Act → World → Prop, (∀ a w, S w → wpAnyH P .any ops Q S m ls' a w → K a w) → Stp P ops Q o a w K)
    (k' : ∀ K : Act → World → Prop, (∀ a w, S w → wpAnyH P .any ops Q S m ls'' a w → K a w) → Stp P ops Q o' a w K) : wpAnyH P .any ops Q S (m + 1) ls a w := by
  subst hls hls'
  exact wpAnyH_ready hr (by simp) (AllReadyH.cons hi (fun K hK => k K fun a w hS hW => hK.out a w hS fun _ => hW) (AllReadyH.cons hj (fun K hK => k' K fun a w hS hW => hK.out a w hS fun _ => hW) AllReadyH.nil))

theorem dr_done {P : Program} {ops : Array Oper} {Q : Exit → Act → World → Prop} {a : Act} {w : World} {S : World → Prop} {m : Nat} {ls : Array Bool} (hr : Region.ready .any ops ls = []) (h : Q .normal a w) : wpAnyH P .any ops Q S m ls a w := wpAnyH_done hr h m

theorem cndF {P : Program} {Q : Exit → Act → World → Prop} {a : Act} {w : World} {c : Operand} {x y : Code} {t : Bool} {n : Nat} {L : List (Nat × Value)} (hE : Env n L a) (hc : ev L c = some (.bool t)) (ht : t = false) (h : y.wp P Q a w) : (Code.cond c x y).wp P Q a w := wp_cond_false (by rw [hE.ev hc, ht]) h

theorem blk_hit {Q : Exit → Act → World → Prop} {a : Act} {w : World} {id : Nat} (h : Q .normal a w) : Exit.inBlock id Q (.exit id) a w := by simpa [Exit.inBlock] using h

theorem lp {P : Program} {Q : Exit → Act → World → Prop} {a : Act} {w : World} {c : Code} (I : Nat → Act → World → Prop) (m : Nat) (h0 : I m a w)
    (round : ∀ m a w, I m a w → c.wp P (Exit.then (fun a' w' => ∃ m', m' < m ∧ I m' a' w') Q) a w) : (Code.loop c).wp P Q a w := wp_loop_ghost I m h0 round

def argL : Nat → List Value → List (Nat × Value)
  | _, [] => []
  | i, v :: vs => (i, v) :: argL (i + 1) vs

theorem lk_argL : ∀ (vs : List Value) (i t : Nat) (v : Value), lk t (argL i vs) = some v → i ≤ t ∧ vs[t - i]? = some v
  | [], _, _, _, h => by cases h
  | u :: vs, i, t, v, h => by
    simp only [argL, lk] at h
    by_cases e : Nat.beq t i = true
    · have e' := Nat.eq_of_beq_eq_true e
      subst e'
      simp at h; subst h
      exact ⟨Nat.le_refl _, by simp⟩
    · have e' : Nat.beq t i = false := Bool.eq_false_iff.2 e
      rw [e'] at h
      obtain ⟨h1, h2⟩ := lk_argL vs (i + 1) t v h
      refine ⟨by omega, ?_⟩
      rw [show t - i = (t - (i + 1)) + 1 from by omega, List.getElem?_cons_succ]; exact h2

theorem enter {P : Program} {f : FuncId} {fn : Func} {c : Code} {vs : List Value} {w : World} {R : Ending → World → Prop} {n : Nat} (hf : P.funcs[f]? = some fn) (hb : fn.body = some c) (hn : fn.ntmps = n) (hl : Nat.ble vs.length n = true)
    (k : ∀ a, Env n (argL 0 vs) a → c.wp P (bodyPost P fn R) a w) : Calls P f vs.toArray w R := by
  refine calls_of_wp hf hb (k _ ?_)
  rw [hn]
  refine Env.start (fun t v h => ?_) (Nat.le_of_ble_eq_true hl)
  have := (lk_argL vs 0 t v h).2
  simpa using this

def resSem (tmps : Array Value) : ResultVar → Sem Value
  | .tmp t => pure (tmps.getD t undef)
  | .cell a t => do loadVar t (← asAddr (tmps.getD a undef))

theorem results_eq (fn : Func) (tmps : Array Value) : results fn tmps = (do let vs ← fn.results.mapM (resSem tmps); pure (if h : vs.size = 1 then vs[0] else .tuple vs)) := by
  unfold results
  have : (fun r => match r with | ResultVar.tmp t => (pure (tmps.getD t undef) : Sem Value) | ResultVar.cell a t => do loadVar t (← asAddr (tmps.getD a undef))) = resSem tmps := by
    funext r; cases r <;> rfl
  rw [← this]; rfl

/-- What one result is. -/
def RV (P : Program) (w : World) (L : List (Nat × Value)) (r : ResultVar) (v : Value) : Prop :=
  ∀ (n : Nat) (a : Act), Env n L a → (resSem a.tmps r).run P w = .ok v w

theorem rv_tmp {P : Program} {w : World} {L : List (Nat × Value)} {t : Nat} {v : Value} (h : lk t L = some v) : RV P w L (.tmp t) v := fun _ _ hE => by
  show (Sem.pure _).run P w = _
  rw [hE.get t v h]; rfl

theorem rv_cell {P : Program} {w : World} {L : List (Nat × Value)} {ad : Nat} {t : TypeId} {p : Addr} {v : Value} (h : lk ad L = some (.pointer (some p))) (hl : (loadVar t p).run P w = .ok v w) : RV P w L (.cell ad t) v := fun _ _ hE => by
  show ((do loadVar t (← asAddr _)) : Sem Value).run P w = _
  rw [hE.get ad _ h]; simpa [asAddr] using hl

theorem ret1 {P : Program} {fn : Func} {R : Ending → World → Prop} {a : Act} {w : World} {n : Nat} {L : List (Nat × Value)} {r1 : ResultVar} {v1 : Value} (hE : Env n L a) (hr : fn.results = #[r1]) (h1 : RV P w L r1 v1) (hR : R (.returned v1) w) : bodyPost P fn R .ret a w := by
  refine ⟨hE.defers, v1, ?_, hR⟩
  rw [results_eq, hr]
  have h1 := h1 n a hE
  generalize resSem a.tmps = F at *
  simp [h1]

theorem ret2 {P : Program} {fn : Func} {R : Ending → World → Prop} {a : Act} {w : World} {n : Nat} {L : List (Nat × Value)} {r1 r2 : ResultVar} {v1 v2 : Value} (hE : Env n L a) (hr : fn.results = #[r1, r2]) (h1 : RV P w L r1 v1) (h2 : RV P w L r2 v2) (hR : R (.returned (.tuple #[v1, v2])) w) : bodyPost P fn R .ret a w := by
  refine ⟨hE.defers, _, ?_, hR⟩
  rw [results_eq, hr]
  have h1 := h1 n a hE
  have h2 := h2 n a hE
  generalize resSem a.tmps = F at *
  simp [h1, h2]

theorem nrm {next : Act → World → Prop} {Q : Exit → Act → World → Prop} {a : Act} {w : World} (h : next a w) : Exit.then next Q .normal a w := h

theorem thn_ret {next : Act → World → Prop} {Q : Exit → Act → World → Prop} {a : Act} {w : World} (h : Q .ret a w) : Exit.then next Q .ret a w := h

theorem thn_exit {next : Act → World → Prop} {Q : Exit → Act → World → Prop} {a : Act} {w : World} {id : Nat} (h : Q (.exit id) a w) : Exit.then next Q (.exit id) a w := h

theorem blk_n {Q : Exit → Act → World → Prop} {a : Act} {w : World} {id : Nat} (h : Q .normal a w) : Exit.inBlock id Q .normal a w := h

theorem blk_ret {Q : Exit → Act → World → Prop} {a : Act} {w : World} {id : Nat} (h : Q .ret a w) : Exit.inBlock id Q .ret a w := h

theorem cnd_nb {P : Program} {Q : Exit → Act → World → Prop} {a : Act} {w : World} {c : Operand} {x y : Code} {t : Bool} {n : Nat} {L : List (Nat × Value)} (hE : Env n L a) (hc : ev L c = some (.bool !t)) (ht : t = false → x.wp P Q a w) (hf : t = true → y.wp P Q a w) : (Code.cond c x y).wp P Q a w := wp_cond_split (hE.ev hc) (fun h => ht (by simpa using h)) (fun h => hf (by simpa using h))

theorem cnd_d {P : Program} {Q : Exit → Act → World → Prop} {a : Act} {w : World} {c : Operand} {x y : Code} {p : Prop} [Decidable p] {n : Nat} {L : List (Nat × Value)} (hE : Env n L a) (hc : ev L c = some (.bool (decide p))) (ht : p → x.wp P Q a w) (hf : ¬ p → y.wp P Q a w) : (Code.cond c x y).wp P Q a w := wp_cond_split (hE.ev hc) (fun h => ht (of_decide_eq_true h)) (fun h => hf (of_decide_eq_false h))

theorem cnd_ne {P : Program} {Q : Exit → Act → World → Prop} {a : Act} {w : World} {c : Operand} {x y : Code} {m k : Int} {n : Nat} {L : List (Nat × Value)} (hE : Env n L a) (hc : ev L c = some (.bool (m != k))) (ht : ¬ m = k → x.wp P Q a w) (hf : m = k → y.wp P Q a w) : (Code.cond c x y).wp P Q a w := wp_cond_split (hE.ev hc) (fun h => ht (by simpa using h)) (fun h => hf (by simpa using h))

theorem bne_f {m k : Int} (h : m = k) : (m != k) = false := by simp [h]

theorem not_f {b : Bool} (h : b = true) : (!b) = false := by simp [h]

theorem pl {P : Program} {ops : Array Oper} {Q : Exit → Act → World → Prop} {o : Oper} {rest : List Oper} {a : Act} {w : World} (h : ∀ K : Act → World → Prop, (∀ a w, wpList P ops Q rest a w → K a w) → Stp P ops Q o a w K) : wpList P ops Q (o :: rest) a w := wpList_step h

theorem pl_x {P : Program} {S : World → Prop} {ops : Array Oper} {Q : Exit → Act → World → Prop} {o : Oper} {rest : List Oper} {a : Act} {w : World} {n d : Nat} {L : List (Nat × Value)} {v : Value} (hE : Env n L a) (hS : S w) (hw : Region.wanted o (yielded ops a.tmps) = true) (hx : XS P S L o v) (hd : o.dst = some d) (hn : Nat.blt d n = true)
    (k : ∀ a', Env n ((d, v) :: L) a' → wpList P ops Q rest a' w) : wpList P ops Q (o :: rest) a w := pl fun _ hK => st_x hE hS hw hx hd hn fun a' hE' => hK _ _ (k a' hE')

theorem x_move {P : Program} {S : World → Prop} {L : List (Nat × Value)} {d : Option Tmp} {x : Operand} {v : Value} {ty : TypeId} {pos : String} {af : Array Edge} {g : Option (Nat × Bool)} (hx : ev L x = some v) : XS P S L ⟨d, .move x, ty, pos, af, g⟩ v := fun _ _ _ hE _ => by simp [execOp, hE.ev hx]

theorem x_assign {P : Program} {S : World → Prop} {L : List (Nat × Value)} {d : Option Tmp} {x : Operand} {v : Value} {ty : TypeId} {pos : String} {af : Array Edge} {g : Option (Nat × Bool)} (hx : ev L x = some v) : XS P S L ⟨d, .assign x, ty, pos, af, g⟩ v := fun _ _ _ hE _ => by simp [execOp, hE.ev hx]

theorem x_pickF {P : Program} {S : World → Prop} {L : List (Nat × Value)} {d : Option Tmp} {c x y : Operand} {b : Bool} {v : Value} {ty : TypeId} {pos : String} {af : Array Edge} {g : Option (Nat × Bool)} (hc : ev L c = some (.bool b)) (hb : b = false) (hy : ev L y = some v) : XS P S L ⟨d, .pick c x y, ty, pos, af, g⟩ v := fun _ _ _ hE _ => by subst hb; simp [execOp, hE.ev hy, hE.ev hc, asBool]

theorem x_not {P : Program} {S : World → Prop} {L : List (Nat × Value)} {d : Option Tmp} {t : TypeId} {x : Operand} {b : Bool} {ty : TypeId} {pos : String} {af : Array Edge} {g : Option (Nat × Bool)} (hx : ev L x = some (.bool b)) : XS P S L ⟨d, .unOp .not t x, ty, pos, af, g⟩ (.bool !b) := fun _ _ _ hE _ => by simp [execOp, hE.ev hx, Op.unary]

theorem x_add {P : Program} {S : World → Prop} {L : List (Nat × Value)} {d : Option Tmp} {t t' : TypeId} {x y : Operand} {m k : Int} {ty : TypeId} {pos : String} {af : Array Edge} {g : Option (Nat × Bool)} (hx : ev L x = some (.int .i64 m)) (hy : ev L y = some (.int .i64 k)) (h : I64 (m + k)) : XS P S L ⟨d, .binOp .add t x y t', ty, pos, af, g⟩ (.int .i64 (m + k)) := fun _ _ _ hE _ => by
  have e : IntKind.i64.wrap (m + k) = m + k := IntWalk.i64_in _ (by unfold I64 at h; omega)
  simp only [execOp, hE.ev hx, hE.ev hy, eqGuard, binOp, Op.intArith, e]; rfl

theorem x_lss {P : Program} {S : World → Prop} {L : List (Nat × Value)} {d : Option Tmp} {t t' : TypeId} {x y : Operand} {q : IntKind} {m k : Int} {ty : TypeId} {pos : String} {af : Array Edge} {g : Option (Nat × Bool)} (hx : ev L x = some (.int q m)) (hy : ev L y = some (.int q k)) : XS P S L ⟨d, .binOp .lss t x y t', ty, pos, af, g⟩ (.bool (decide (m < k))) := fun _ _ _ hE _ => by
  simp [execOp, hE.ev hx, hE.ev hy, eqGuard, binOp, Op.intCmp]

theorem x_neq {P : Program} {S : World → Prop} {L : List (Nat × Value)} {d : Option Tmp} {t t' : TypeId} {x y : Operand} {q : IntKind} {m k : Int} {ty : TypeId} {pos : String} {af : Array Edge} {g : Option (Nat × Bool)} (hx : ev L x = some (.int q m)) (hy : ev L y = some (.int q k)) : XS P S L ⟨d, .binOp .neq t x y t', ty, pos, af, g⟩ (.bool (m != k)) := fun _ _ _ hE _ => by
  simp [execOp, hE.ev hx, hE.ev hy, eqGuard, binOp, Op.intCmp]

theorem x_extract {P : Program} {S : World → Prop} {L : List (Nat × Value)} {d : Option Tmp} {x : Operand} {i : Nat} {vs : List Value} {v : Value} {ty : TypeId} {pos : String} {af : Array Edge} {g : Option (Nat × Bool)} (hx : ev L x = some (.tuple vs.toArray)) (hi : vs[i]? = some v) : XS P S L ⟨d, .extract x i, ty, pos, af, g⟩ v := fun _ _ _ hE _ => by
  simp [execOp, hE.ev hx, Instr.extract, hi]

theorem x_len {P : Program} {S : World → Prop} {L : List (Nat × Value)} {d : Option Tmp} {x : Operand} {t e : TypeId} {A : Option Addr} {n c : Nat} {ty : TypeId} {pos : String} {af : Array Edge} {g : Option (Nat × Bool)} (ht : P.underlying t = some (.slice e)) (hx : ev L x = some (.slice A n c)) : XS P S L ⟨d, .call { callee := .builtin .len, args := #[x], argTypes := #[t] }, ty, pos, af, g⟩ (.int .i64 n) := fun _ _ _ hE _ => by
  simp [execOp, resolve, invoke, builtin, Builtin.len_, run_underlying ht, hE.ev hx, goInt]

theorem x_fieldAddr {P : Program} {S : World → Prop} {L : List (Nat × Value)} {d : Option Tmp} {x : Operand} {t : TypeId} {f b o fo : Nat} {ty : TypeId} {pos : String} {af : Array Edge} {g : Option (Nat × Bool)} (hfa : ∀ b o w, (Instr.fieldAt t (.pointer (some ⟨b, o, none⟩)) f).run P w = .ok (.pointer (some ⟨b, o + fo, none⟩)) w) (hx : ev L x = some (.pointer (some ⟨b, o, none⟩))) : XS P S L ⟨d, .fieldAddr t x f, ty, pos, af, g⟩ (.pointer (some ⟨b, o + fo, none⟩)) := fun _ _ w hE _ => by
  simp [execOp, hE.ev hx, hfa]

theorem fieldAt_of {P : Program} {t : TypeId} {fs : Array Field} {f : Nat} {fl : Field} {i : TypeInfo} (hu : P.underlying t = some (.struct fs)) (hf : fs[f]? = some fl) (hi : P.info? fl.type = some i) (hz : i.size ≠ 0) (b o : Nat) (w : World) : (Instr.fieldAt t (.pointer (some ⟨b, o, none⟩)) f).run P w = .ok (.pointer (some ⟨b, o + fl.offset, none⟩)) w := by
  simp [Instr.fieldAt, run_underlying hu, hf, Instr.sureAddr, fieldPlace, sizeOf, typeInfo, hi, hz, add_none]

/-- What is known of a slice type. -/
structure TSl (P : Program) (t e : TypeId) (sz bytes : Nat) : Prop where
  under : P.underlying t = some (.slice e)
  info : ∃ i z, P.info? e = some i ∧ i.zero = some z ∧ i.size = sz ∧ i.bytes = bytes ∧ z.cells.size = sz

theorem x_indexAddr {P : Program} {S : World → Prop} {L : List (Nat × Value)} {d : Option Tmp} {x y : Operand} {t e : TypeId} {sz by_ : Nat} {A : Option Addr} {n c b off k : Nat} {q : IntKind} {m : Int} {ty : TypeId} {pos : String} {af : Array Edge} {g : Option (Nat × Bool)} (ht : TSl P t e sz by_) (hx : ev L x = some (.slice A n c)) (hy : ev L y = some (.int q m)) (hA : A = some ⟨b, off, none⟩) (hm : m = (k : Int)) (hk : k < n) : XS P S L ⟨d, .indexAddr t x y, ty, pos, af, g⟩ (.pointer (some ⟨b, off + k * sz, none⟩)) := fun _ _ w hE _ => by
  obtain ⟨i, z, h1, _, h2, _⟩ := ht.info
  subst hA hm h2
  have h3 : (0 : Int) ≤ (k : Int) ∧ (k : Int) < (n : Int) := by omega
  simp [execOp, hE.ev hx, hE.ev hy, Instr.indexAt, asIntOf, run_underlying ht.under, sizeOf, typeInfo, h1, hk, add_none]

def isAggD : TypeDesc → Bool
  | .struct _ => true
  | .array _ _ => true
  | _ => false

/-- What is known of a variable's type: its cells, what they hold at first. -/
structure TV (P : Program) (t : TypeId) (agg : Bool) (zs : List Value) : Prop where
  under : ∃ d, P.underlying t = some d ∧ isAggD d = agg
  info : ∃ i z, P.info? t = some i ∧ i.zero = some z ∧ i.size = zs.length ∧ z.cells = zs.toArray

theorem TV.isAgg {P : Program} {t : TypeId} {agg : Bool} {zs : List Value} (h : TV P t agg zs) (w : World) : (Go.isAgg t).run P w = .ok agg w := by
  obtain ⟨d, h1, h2⟩ := h.under
  subst h2
  unfold Go.isAgg
  cases d <;> simp [run_underlying h1, isAggD]

theorem TV.load1 {P : Program} {t : TypeId} {zs : List Value} (h : TV P t false zs) {p : Addr} {w : World} {v : Value} (hc : w.cell? p = some v) : (loadVar t p).run P w = .ok v w := by
  unfold loadVar
  simp [h.isAgg w, hc]

theorem run_loadCellsFrom {P : Program} {w : World} {b o : Nat} : ∀ (cs : List Value) (i : Nat) (acc : Array Value), (∀ j v, cs[j]? = some v → w.cell? ⟨b, o + (i + j), none⟩ = some v) → (loadCellsFrom ⟨b, o, none⟩ i cs.length acc).run P w = .ok (acc ++ cs.toArray) w
  | [], i, acc, _ => by simp [loadCellsFrom]
  | v :: cs, i, acc, h => by
    have h0 := h 0 v rfl
    rw [Nat.add_zero] at h0
    have ih := run_loadCellsFrom (P := P) cs (i + 1) (acc.push v) fun j u hu => by
      have := h (j + 1) u (by simpa using hu)
      rw [show i + (j + 1) = i + 1 + j from by omega] at this; exact this
    rw [List.length_cons]
    simp only [loadCellsFrom, Go.load, add_none, Sem.run_bind, Sem.run, h0, Result.andThen_ok, ih]
    simp

theorem TV.loadN {P : Program} {t : TypeId} {zs cs : List Value} (h : TV P t true zs) {b o : Nat} {w : World} (hl : cs.length = zs.length) (hc : ∀ j v, cs[j]? = some v → w.cell? ⟨b, o + j, none⟩ = some v) : (loadVar t ⟨b, o, none⟩).run P w = .ok (.agg cs.toArray) w := by
  obtain ⟨i, z, h1, h2, h3, h4⟩ := h.info
  have hL := run_loadCellsFrom (P := P) (w := w) (b := b) (o := o) cs 0 #[] (fun j v hv => by rw [Nat.zero_add]; exact hc j v hv)
  unfold loadVar loadCells
  simp only [Sem.run_bind, h.isAgg w, Result.andThen_ok, sizeOf, typeInfo]
  simp [h1, h3, ← hl, hL]

theorem x_load1 {P : Program} {S : World → Prop} {L : List (Nat × Value)} {d : Option Tmp} {x : Operand} {t : TypeId} {zs : List Value} {p : Addr} {v : Value} {ty : TypeId} {pos : String} {af : Array Edge} {g : Option (Nat × Bool)} (ht : TV P t false zs) (hx : ev L x = some (.pointer (some p))) (hc : ∀ w, S w → w.cell? p = some v) : XS P S L ⟨d, .load t x, ty, pos, af, g⟩ v := fun _ _ w hE hS => by
  simp [execOp, hE.ev hx, Instr.loadAt, Instr.sureAddr, ht.load1 (hc w hS)]

theorem x_loadN {P : Program} {S : World → Prop} {L : List (Nat × Value)} {d : Option Tmp} {x : Operand} {t : TypeId} {zs cs : List Value} {b o : Nat} {ty : TypeId} {pos : String} {af : Array Edge} {g : Option (Nat × Bool)} (ht : TV P t true zs) (hx : ev L x = some (.pointer (some ⟨b, o, none⟩))) (hl : cs.length = zs.length) (hc : ∀ w, S w → ∀ j v, cs[j]? = some v → w.cell? ⟨b, o + j, none⟩ = some v) : XS P S L ⟨d, .load t x, ty, pos, af, g⟩ (.agg cs.toArray) := fun _ _ w hE hS => by
  simp [execOp, hE.ev hx, Instr.loadAt, Instr.sureAddr, ht.loadN hl (hc w hS)]

/-- What a held block's cell holds. -/
theorem c_blk {M : Nat → Prop} {w0 : World} {rs : List Res} {g : Nat} {t : TypeId} {cs : List Value} {v : Value} {o : Nat} (i : Nat) (hi : rs[i]? = some (rBlk g t cs)) (hv : cs[o]? = some v) : ∀ w, Held M w0 rs w → w.cell? ⟨g, o, none⟩ = some v := fun w h => by
  have h1 : Blk w g t cs.toArray := h.get hi
  rw [h1.cell]; simpa using hv

theorem c_blkN {M : Nat → Prop} {w0 : World} {rs : List Res} {g : Nat} {t : TypeId} {cs : List Value} (i : Nat) (hi : rs[i]? = some (rBlk g t cs)) : ∀ w, Held M w0 rs w → ∀ j v, cs[j]? = some v → w.cell? ⟨g, 0 + j, none⟩ = some v := fun w h j v hv => by
  rw [Nat.zero_add]; exact c_blk i hi hv w h

/-- What a cell held at the start. -/
theorem c_old {w0 : World} {rs : List Res} {b o : Nat} {v : Value} (hc : w0.cell? ⟨b, o, none⟩ = some v) : ∀ w, Held Nob w0 rs w → w.cell? ⟨b, o, none⟩ = some v := fun w h => by
  rw [h.cell0 (lt_of_cell hc) fun h => h]; exact hc

/-- An element of a slice that was there at the start. -/
theorem el_old {w0 : World} {α : Type} {E : Enc α} {A : Option Addr} {c : Nat} {xs : List α} (h : Sl E w0 (Old w0) A c xs) {k : Nat} (hk : k < xs.length) :
    ∃ b off es, A = some ⟨b, off, none⟩ ∧ E.R w0 (Old w0) es xs[k] ∧ ∀ j v, es[j]? = some v → w0.cell? ⟨b, off + k * E.size + j, none⟩ = some v := by
  obtain ⟨b, off, es, h1, _, h2, h3⟩ := h.at hk
  exact ⟨b, off, es, h1, h2, h3⟩

theorem run_alloc {P : Program} {n : Nat} {a : Act} {L : List (Nat × Value)} {w : World} {t : TypeId} {agg : Bool} {zs : List Value} {d : Option Tmp} {ty : TypeId} {pos : String} {af : Array Edge} {g : Option (Nat × Bool)} (hE : Env n L a) (ht : TV P t agg zs) : (execOp a.eval ⟨d, .alloc t, ty, pos, af, g⟩).run P w = .ok (.value (.pointer (some ⟨w.heap.size, 0, none⟩))) (w.alloc (.cells zs.toArray t)) := by
  obtain ⟨i, z, h1, h2, h3, h4⟩ := ht.info
  simp [execOp, Instr.alloc, zeroValue, typeInfo, h1, h2, newVar, newRow, h4]

theorem run_box {P : Program} {n : Nat} {a : Act} {L : List (Nat × Value)} {w : World} {t : TypeId} {x : Operand} {v : Value} {cs : List Value} {d : Option Tmp} {ty : TypeId} {pos : String} {af : Array Edge} {g : Option (Nat × Bool)} (hE : Env n L a) (hx : ev L x = some v) (hv : v.cells = cs.toArray) : (execOp a.eval ⟨d, .box t x, ty, pos, af, g⟩).run P w = .ok (.value (.pointer (some ⟨w.heap.size, 0, none⟩))) (w.alloc (.cells cs.toArray t)) := by
  simp [execOp, Instr.box, hE.ev hx, newVar, newRow, hv]

theorem st_alloc {P : Program} {ops : Array Oper} {Q : Exit → Act → World → Prop} {a : Act} {w : World} {K : Act → World → Prop} {n d : Nat} {L : List (Nat × Value)} {M : Nat → Prop} {w0 : World} {rs : List Res} {t : TypeId} {agg : Bool} {zs : List Value} {ty : TypeId} {pos : String} {af : Array Edge} {g : Option (Nat × Bool)} (hE : Env n L a) (hH : Held M w0 rs w) (ht : TV P t agg zs) (hw : Region.wanted ⟨some d, .alloc t, ty, pos, af, g⟩ (yielded ops a.tmps) = true) (hn : Nat.blt d n = true)
    (k : ∀ q a' w', Env n ((d, .pointer (some ⟨q, 0, none⟩)) :: L) a' → Held M w0 (rBlk q t zs :: rs) w' → K a' w') : Stp P ops Q ⟨some d, .alloc t, ty, pos, af, g⟩ a w K :=
  st_val hE hw (run_alloc hE ht) rfl hn fun a' hE' => k _ a' _ hE' (hH.alloc t zs)

theorem st_box {P : Program} {ops : Array Oper} {Q : Exit → Act → World → Prop} {a : Act} {w : World} {K : Act → World → Prop} {n d : Nat} {L : List (Nat × Value)} {M : Nat → Prop} {w0 : World} {rs : List Res} {t : TypeId} {x : Operand} {v : Value} {cs : List Value} {ty : TypeId} {pos : String} {af : Array Edge} {g : Option (Nat × Bool)} (hE : Env n L a) (hH : Held M w0 rs w) (hx : ev L x = some v) (hv : v.cells = cs.toArray) (hw : Region.wanted ⟨some d, .box t x, ty, pos, af, g⟩ (yielded ops a.tmps) = true) (hn : Nat.blt d n = true)
    (k : ∀ q a' w', Env n ((d, .pointer (some ⟨q, 0, none⟩)) :: L) a' → Held M w0 (rBlk q t cs :: rs) w' → K a' w') : Stp P ops Q ⟨some d, .box t x, ty, pos, af, g⟩ a w K :=
  st_val hE hw (run_box hE hx hv) rfl hn fun a' hE' => k _ a' _ hE' (hH.alloc t cs)

/-- A slice literal. -/
theorem st_lit {P : Program} {ops : Array Oper} {Q : Exit → Act → World → Prop} {o : Oper} {a : Act} {w : World} {K : Act → World → Prop} {n d m : Nat} {L : List (Nat × Value)} {M : Nat → Prop} {w0 : World} {rs : List Res} {e : TypeId} {cs : List Value} (hE : Env n L a) (hH : Held M w0 rs w)
    (hr : (execOp a.eval o).run P w = .ok (.value (.slice (some ⟨w.heap.size, 0, none⟩) m m)) (w.alloc (.cells cs.toArray e))) (hw : Region.wanted o (yielded ops a.tmps) = true) (hd : o.dst = some d) (hn : Nat.blt d n = true)
    (k : ∀ q a' w', Env n ((d, .slice (some ⟨q, 0, none⟩) m m) :: L) a' → Held M w0 (rBlk q e cs :: rs) w' → K a' w') : Stp P ops Q o a w K :=
  st_val hE hw hr hd hn fun a' hE' => k _ a' _ hE' (hH.alloc e cs)

def setL (cs : List Value) (o : Nat) : List Value → List Value
  | [] => cs
  | v :: vs => setL (cs.set o v) (o + 1) vs

theorem run_storeCells {P : Program} {M : Nat → Prop} {w0 : World} {g : Nat} {t : TypeId} {i : Nat} {o : Nat} : ∀ (vs : List Value) (rs : List Res) (cs : List Value) (w : World) (j : Nat), Held M w0 rs w → rs[i]? = some (rBlk g t cs) → o + j + vs.length ≤ cs.length → (∀ v ∈ vs, v.oneCell' = true) →
    ∃ w', (storeCells ⟨g, o, none⟩ vs j).run P w = .ok () w' ∧ Held M w0 (rs.set i (rBlk g t (setL cs (o + j) vs))) w'
  | [], rs, cs, w, j, h, hi, _, _ => ⟨w, by simp [storeCells], by
      have : rs.set i (rBlk g t (setL cs (o + j) [])) = rs := by
        apply List.ext_getElem?
        intro m
        by_cases e : i = m
        · subst e; rw [List.getElem?_set_self (List.getElem?_eq_some_iff.1 hi).1, hi]; rfl
        · rw [List.getElem?_set_ne e]
      rw [this]; exact h⟩
  | v :: vs, rs, cs, w, j, h, hi, hl, h1 => by
    rw [List.length_cons] at hl
    have hlt : o + j < cs.length := by omega
    have hB : Blk w g t cs.toArray := h.get hi
    have hc : w.cell? ⟨g, o + j, none⟩ = some cs[o + j] := by rw [hB.cell]; simp [hlt]
    have hf : w.frozen? ⟨g, o + j, none⟩ = false := hB.frozen _
    have h2 := h.set hi (o + j) v
    have hi' : (rs.set i (rBlk g t (cs.set (o + j) v)))[i]? = some (rBlk g t (cs.set (o + j) v)) := List.getElem?_set_self (List.getElem?_eq_some_iff.1 hi).1
    obtain ⟨w', e1, e2⟩ := run_storeCells (P := P) (o := o) vs _ (cs.set (o + j) v) _ (j + 1) h2 hi' (by rw [List.length_set]; omega) (fun u hu => h1 u (by simp [hu]))
    refine ⟨w', ?_, ?_⟩
    · have hv := h1 v (by simp)
      have hs : (Go.store ⟨g, o + j, none⟩ v).run P w = .ok () (w.setCell ⟨g, o + j, none⟩ v) := by
        cases v <;> first | (simp [Value.oneCell'] at hv; done) | simp [Go.store, Sem.run, hc, hf]
      simp only [storeCells, add_none, Sem.run_bind, hs, Result.andThen_ok, e1]
    · rw [List.set_set] at e2
      exact e2

theorem run_storeAt {P : Program} {M : Nat → Prop} {w0 : World} {g : Nat} {t tb : TypeId} {i o : Nat} {vs : List Value} {rs : List Res} {cs : List Value} {w : World} {v : Value} {agg : Bool} {zs : List Value} (ht : TV P t agg zs) (hv : v.cells = vs.toArray) (hz : vs.length = zs.length) (h : Held M w0 rs w) (hi : rs[i]? = some (rBlk g tb cs)) (hl : o + vs.length ≤ cs.length) (h1 : ∀ v ∈ vs, v.oneCell' = true) :
    ∃ w', (Instr.storeAt t (.pointer (some ⟨g, o, none⟩)) v).run P w = .ok () w' ∧ Held M w0 (rs.set i (rBlk g tb (setL cs o vs))) w' := by
  obtain ⟨ii, z, e1, _, e3, _⟩ := ht.info
  obtain ⟨w', h2, h3⟩ := run_storeCells (P := P) (o := o) vs rs cs w 0 h hi (by omega) h1
  refine ⟨w', ?_, h3⟩
  simp only [Instr.storeAt, Instr.sureAddr, storeVar, sizeOf, typeInfo, Sem.run_bind, Sem.run_pure, Result.andThen_ok, run_program, e1]
  simp [hv, h2, e3, hz]

/-- A store into a held block. -/
theorem st_store {P : Program} {ops : Array Oper} {Q : Exit → Act → World → Prop} {a : Act} {w : World} {K : Act → World → Prop} {n : Nat} {L : List (Nat × Value)} {M : Nat → Prop} {w0 : World} {rs : List Res} {t tb : TypeId} {agg : Bool} {zs : List Value} {x y : Operand} {g o : Nat} {v : Value} {vs cs : List Value} {ty : TypeId} {pos : String} {af : Array Edge} {gd : Option (Nat × Bool)} (i : Nat) (hE : Env n L a) (hH : Held M w0 rs w) (ht : TV P t agg zs) (hx : ev L x = some (.pointer (some ⟨g, o, none⟩))) (hy : ev L y = some v) (hv : v.cells = vs.toArray) (hz : vs.length = zs.length) (hi : rs[i]? = some (rBlk g tb cs)) (hl : Nat.ble (o + vs.length) cs.length = true) (h1 : ∀ v ∈ vs, v.oneCell' = true) (hw : Region.wanted ⟨none, .store t x y, ty, pos, af, gd⟩ (yielded ops a.tmps) = true)
    (k : ∀ w', Held M w0 (rs.set i (rBlk g tb (setL cs o vs))) w' → K a w') : Stp P ops Q ⟨none, .store t x y, ty, pos, af, gd⟩ a w K := by
  obtain ⟨w', h2, h3⟩ := run_storeAt (P := P) ht hv hz hH hi (Nat.le_of_ble_eq_true hl) h1
  refine st_skip hw ?_ rfl (k w' h3)
  simp only [execOp, hE.ev hx, hE.ev hy, Sem.run_bind, h2, Result.andThen_ok, Sem.run_pure]

/-- A row of elements: the cells of each, and the blocks that each owns. -/
def Vec {α : Type} (E : Enc α) (t : TypeId) (w : World) (S : Nat → Prop) (v : Value) (xs : List α) : Prop :=
  ∃ (css : List (List Value)) (T : Nat → Nat → Prop), css.length = xs.length ∧ w.ownsRow 0 t E.size v xs.length css.flatten ∧ (∀ b, v.ownBlock = some b → S b) ∧ (∀ i b, T i b → S b ∧ v.ownBlock ≠ some b) ∧ (∀ i j b, T i b → T j b → i = j) ∧
    ∀ (i : Nat) (x : α), xs[i]? = some x → ∃ es, css[i]? = some es ∧ E.O w (T i) es x

theorem ownsRow_keep {w w' : World} {base : Nat} {t : TypeId} {size : Nat} {v : Value} {n : Nat} {xs : List Value} (h : w.ownsRow base t size v n xs) (hk : ∀ b, v.ownBlock = some b → w'.heap[b]? = w.heap[b]?) : w'.ownsRow base t size v n xs := by
  refine ⟨h.1, ?_⟩
  rcases h.2 with h2 | ⟨g, cap, cur, rfl, hg, hh, r⟩
  · exact .inl h2
  · exact .inr ⟨g, cap, cur, rfl, hg, (hk g rfl).trans hh, r⟩

theorem Vec.keep {α : Type} {E : Enc α} {t : TypeId} {w w' : World} {S : Nat → Prop} {v : Value} {xs : List α} (h : Vec E t w S v xs) (hk : ∀ b, S b → w'.heap[b]? = w.heap[b]?) : Vec E t w' S v xs := by
  obtain ⟨css, T, h1, h2, h3, h4, h5, h6⟩ := h
  refine ⟨css, T, h1, ownsRow_keep h2 fun b hb => hk b (h3 b hb), h3, h4, h5, fun i x hx => ?_⟩
  obtain ⟨es, h7, h8⟩ := h6 i x hx
  exact ⟨es, h7, E.okeep h8 fun b hb => hk b (h4 i b hb).1⟩

def rVec {α : Type} (E : Enc α) (t : TypeId) (S : Nat → Prop) (A : Option Addr) (c : Nat) (xs : List α) : Res :=
  ⟨S, fun w => Vec E t w S (.slice A xs.length c) xs, fun _ _ h hv => hv.keep h⟩

theorem Held.vecNil {M : Nat → Prop} {w0 : World} {rs : List Res} {w : World} (h : Held M w0 rs w) {α : Type} (E : Enc α) (t : TypeId) : Held M w0 (rVec E t Nob none 0 [] :: rs) w :=
  h.new (Below.refl _ _) (rVec E t Nob none 0 []) ⟨[], fun _ _ => False, rfl, World.ownsRow_nil _ _ _ _, (fun b hb => by cases hb), fun _ _ h => h.elim, fun _ _ _ h => h.elim, fun i x hx => by simp at hx⟩ fun _ h => h.elim

/-- A block with the cells of flat elements is a row of them. -/
theorem Held.vecFlat {M : Nat → Prop} {w0 : World} {g : Nat} {t : TypeId} {rs : List Res} {w : World} {α : Type} {E : Enc α} {xs : List α} {css : List (List Value)} (h : Held M w0 (rBlk g t css.flatten :: rs) w) (hl : css.length = xs.length) (hm : xs.length ≤ maxLen) (hO : ∀ (i : Nat) (x : α), xs[i]? = some x → ∃ es, css[i]? = some es ∧ ∀ W, E.O W Nob es x) : Held M w0 (rVec E t (fun b => b = g) (some ⟨g, 0, none⟩) xs.length xs :: rs) w := by
  have hfl : css.flatten.length = xs.length * E.size := by
    have key : ∀ (css : List (List Value)) (xs : List α), css.length = xs.length → (∀ (i : Nat) (x : α), xs[i]? = some x → ∃ es, css[i]? = some es ∧ ∀ W, E.O W Nob es x) → css.flatten.length = xs.length * E.size := by
      intro css
      induction css with
      | nil => intro xs hl _; simp at hl; simp [hl.symm]
      | cons e css ih =>
        intro xs hl hO
        rcases xs with _ | ⟨x, xs⟩
        · simp at hl
        · obtain ⟨es, h1, h2⟩ := hO 0 x rfl
          simp at h1; subst h1
          rw [List.flatten_cons, List.length_append, ih xs (by simpa using hl) (fun i y hy => by simpa using hO (i + 1) y (by simpa using hy)), E.len (E.read (h2 default)), List.length_cons, Nat.succ_mul]; omega
    exact key css xs hl hO
  refine h.turn _ (fun hB => ⟨css, fun _ _ => False, hl, ⟨hfl, .inr ⟨g, xs.length, css.flatten.toArray, rfl, Nat.zero_le _, hB, Nat.le_refl _, hm, by simpa using hfl, ?_⟩⟩, (fun b hb => by simpa [Value.ownBlock] using hb.symm), fun _ _ h => h.elim, fun _ _ _ h => h.elim, fun i x hx => ?_⟩) fun _ hb => hb
  · rw [← hfl]; exact List.take_length
  · obtain ⟨es, h1, h2⟩ := hO i x hx
    exact ⟨es, h1, E.omore (h2 w) fun _ h => h.elim⟩

theorem flatten_at (s : Nat) : ∀ (css : List (List Value)), (∀ es ∈ css, es.length = s) → ∀ (i : Nat) (es : List Value), css[i]? = some es → ∀ j, j < s → css.flatten[i * s + j]? = es[j]?
  | [], _, i, es, hx, _, _ => by simp at hx
  | e :: css, h, 0, es, hx, j, hj => by
    simp at hx; subst hx
    rw [List.flatten_cons, Nat.zero_mul, Nat.zero_add, List.getElem?_append_left (by rw [h e (by simp)]; exact hj)]
  | e :: css, h, i + 1, es, hx, j, hj => by
    have hy := h e (by simp)
    rw [List.flatten_cons, Nat.succ_mul, List.getElem?_append_right (by rw [hy]; omega), hy, show i * s + s + j - s = i * s + j from by omega]
    exact flatten_at s css (fun z hz => h z (by simp [hz])) i es (by simpa using hx) j hj

theorem Vec.so {α : Type} {E : Enc α} {t : TypeId} {w : World} {S : Nat → Prop} {A : Option Addr} {c : Nat} {xs : List α} (h : Vec E t w S (.slice A xs.length c) xs) : So E w S A c xs := by
  obtain ⟨css, T, h1, h2, h3, h4, h5, h6⟩ := h
  rcases h2.2 with ⟨he, hn⟩ | ⟨g, cap, cur, he, hg, hh, hnc, hcm, hcs, htk⟩
  · have hx : xs = [] := List.eq_nil_of_length_eq_zero hn
    subst hx
    simp only [Value.slice.injEq] at he
    obtain ⟨rfl, _, rfl⟩ := he
    exact So.nil (Nat.zero_le _)
  · simp only [Value.slice.injEq, true_and] at he
    obtain ⟨rfl, rfl⟩ := he
    refine ⟨hnc, hcm, fun _ => ⟨g, 0, t, cur, T, rfl, h3 g rfl, hh, fun i k hk => ⟨(h4 i k hk).1, fun e => (h4 i k hk).2 (by rw [e]; rfl)⟩, h5, fun i x hx => ?_⟩⟩
    obtain ⟨es, h7, h8⟩ := h6 i x hx
    refine ⟨es, h8, fun j u hu => ?_⟩
    have hi := (List.getElem?_eq_some_iff.1 hx).1
    have hj := (List.getElem?_eq_some_iff.1 hu).1
    have hl : ∀ es ∈ css, es.length = E.size := fun es hes => by
      obtain ⟨m, hm, rfl⟩ := List.getElem_of_mem hes
      obtain ⟨es', h9, h10⟩ := h6 m xs[m] (List.getElem?_eq_getElem (by omega))
      rw [List.getElem?_eq_getElem hm] at h9
      simp at h9; rw [h9]; exact E.len (E.read h10)
    rw [hl es (List.mem_of_getElem? h7)] at hj
    have h9 := flatten_at E.size css hl i es h7 j hj
    rw [← htk] at h9
    have hlt : i * E.size + j < xs.length * E.size := by
      have : (i + 1) * E.size ≤ xs.length * E.size := Nat.mul_le_mul_right _ (by omega)
      rw [Nat.succ_mul] at this; omega
    rw [List.getElem?_take_of_lt hlt, Array.getElem?_toList] at h9
    rw [Nat.zero_add, h9]; exact hu

theorem Held.vecSo {M : Nat → Prop} {w0 : World} {rs : List Res} {w : World} {α : Type} {E : Enc α} {t : TypeId} {S : Nat → Prop} {A : Option Addr} {c : Nat} {xs : List α} (h : Held M w0 (rVec E t S A c xs :: rs) w) : Held M w0 (rSo E S A c xs :: rs) w :=
  h.turn _ (fun hv => oSl (Vec.so hv)) fun _ hb => hb

theorem Held.vecSl {M : Nat → Prop} {w0 : World} {rs : List Res} {w : World} {α : Type} {E : Enc α} {t : TypeId} {S : Nat → Prop} {A : Option Addr} {c : Nat} {xs : List α} (h : Held M w0 rs w) {i : Nat} (hi : rs[i]? = some (rVec E t S A c xs)) : Sl E w (Old w) A c xs :=
  (Vec.so (h.get hi)).sl.more fun b hb => (h.rng _ (List.mem_of_getElem? hi) b hb).2

theorem vec_shape {w : World} {base : Nat} {t : TypeId} {size : Nat} {v : Value} {n : Nat} {xs : List Value} (h : w.ownsRow base t size v n xs) : ∃ A c, v = .slice A n c := by
  rcases h.2 with ⟨rfl, rfl⟩ | ⟨g, cap, cur, rfl, _⟩
  · exact ⟨none, 0, rfl⟩
  · exact ⟨_, cap, rfl⟩

theorem grown_chg {w w' : World} {row : Option Nat} (h : w.grownBy w' row) : Chg (fun b => row = some b) w w' := ⟨h.os, h.tape, h.output, h.size, fun k hk hS => h.block k hk fun e => hS e.symm⟩

/-- Elements laid at ad, one after another, are appended; each with the blocks U that it owns. -/
theorem run_append_vec {P : Program} {M : Nat → Prop} {w0 : World} {rs : List Res} {w : World} {α : Type} {E : Enc α} {t e : TypeId} {bytes : Nat} {S U : Nat → Prop} {A : Option Addr} {c : Nat} {xs : List α} (he : TSl P t e E.size bytes) (ty : TypeId)
    (h : Held M w0 (rVec E e S A c xs :: rs) w) (ad : Addr) (ys : List α) (c2 : Nat) (dss : List (List Value)) (hl : dss.length = ys.length) (hcell : ∀ j u, dss.flatten[j]? = some u → w.cell? (ad.add j) = some u) (h1 : ∀ es ∈ dss, ∀ u ∈ es, u.oneCell' = true)
    (V : Nat → Nat → Prop) (hV : ∀ i b, V i b → U b) (hVd : ∀ i j b, V i b → V j b → i = j) (hO : ∀ (i : Nat) (y : α), ys[i]? = some y → ∃ es, dss[i]? = some es ∧ E.O w (V i) es y) (hU : ∀ b, U b → ¬ S b ∧ b < w.heap.size)
    (h63 : xs.length + ys.length ≤ maxLen) (hbytes : (xs.length + ys.length) * bytes ≤ 140737488355328) :
    ∃ A' c' S' w', (Builtin.append_ #[t, t] ty #[.slice A xs.length c, .slice (some ad) ys.length c2]).run P w = .ok (.slice A' (xs ++ ys).length c') w' ∧ Vec E e w' S' (.slice A' (xs ++ ys).length c') (xs ++ ys) ∧ Chg S w w' ∧ (∀ b, S' b → S b ∨ U b ∨ (w.heap.size ≤ b ∧ b < w'.heap.size)) := by
  obtain ⟨i, z, hi, hz0, hz1, hz2, hz3⟩ := he.info
  obtain ⟨css, T, k1, k2, k3, k4, k5, k6⟩ := h.ok _ (List.mem_cons_self)
  have hrng := h.rng _ (List.mem_cons_self)
  have hfl : dss.flatten.length = ys.length * E.size := by
    have key : ∀ (dss : List (List Value)) (ys : List α), dss.length = ys.length → (∀ (i : Nat) (y : α), ys[i]? = some y → ∃ es : List Value, dss[i]? = some es ∧ es.length = E.size) → dss.flatten.length = ys.length * E.size := by
      intro dss
      induction dss with
      | nil => intro ys hl _; simp at hl; simp [hl.symm]
      | cons e dss ih =>
        intro ys hl hO
        rcases ys with _ | ⟨y, ys⟩
        · simp at hl
        · obtain ⟨es, h1, h2⟩ := hO 0 y rfl
          simp at h1; subst h1
          rw [List.flatten_cons, List.length_append, ih ys (by simpa using hl) (fun i y hy => by simpa using hO (i + 1) y (by simpa using hy)), h2, List.length_cons, Nat.succ_mul]; omega
    exact key dss ys hl fun i y hy => by obtain ⟨es, h1, h2⟩ := hO i y hy; exact ⟨es, h1, E.len (E.read h2)⟩
  obtain ⟨v', w', e1, e2, e3, e4, e5⟩ := run_append_own_at (P := P) w 0 t ty e i z E.size bytes he.under hi hz0 hz1 hz2 hz3 E.pos _ xs.length css.flatten k2 ad ys.length c2 dss.flatten hfl hcell (fun u hu => by obtain ⟨es, h2, h3⟩ := List.mem_flatten.1 hu; exact h1 es h2 u h3) h63 hbytes (Nat.zero_le _)
  obtain ⟨A', c', rfl⟩ := vec_shape e2
  have hch := grown_chg e3
  refine ⟨A', c', fun b => S b ∨ U b ∨ (w.heap.size ≤ b ∧ b < w'.heap.size), w', by rw [List.length_append]; exact e1, ?_, hch.mono (fun b hb => k3 b hb), fun b hb => hb⟩
  have hnew : ∀ b, (Value.slice A' (xs.length + ys.length) c').ownBlock = some b → (Value.slice A xs.length c).ownBlock = some b ∨ (w.heap.size ≤ b ∧ b < w'.heap.size) := by
    intro b hb
    rcases e5 with e5 | e5
    · left; rw [← e5]; exact hb
    · right
      have hb2 : b = w.heap.size := by rw [e5] at hb; exact (Option.some.inj hb).symm
      rcases e2.2 with ⟨q, _⟩ | ⟨g, cap, cur, q, _, hh, _⟩
      · rw [q] at hb; cases hb
      · rw [q] at hb
        have : g = b := by simpa [Value.ownBlock] using hb
        subst this
        exact ⟨by omega, Blk.lt (t := e) (cur := cur) hh⟩
  rw [List.length_append]
  refine ⟨css ++ dss, fun i b => (i < xs.length ∧ T i b) ∨ (xs.length ≤ i ∧ V (i - xs.length) b), by simp [k1, hl], by rw [List.flatten_append, List.length_append]; exact e2, fun b hb => ?_, fun i b hb => ?_, fun i j b hi hj => ?_, fun m x hx => ?_⟩
  · rcases hnew b hb with hb | hb
    · exact .inl (k3 b hb)
    · exact .inr (.inr hb)
  · rcases hb with ⟨_, hb⟩ | ⟨_, hb⟩
    · refine ⟨.inl (k4 i b hb).1, fun hb' => ?_⟩
      rcases hnew b hb' with q | q
      · exact (k4 i b hb).2 q
      · have := (hrng b (k4 i b hb).1).2; omega
    · refine ⟨.inr (.inl (hV _ b hb)), fun hb' => ?_⟩
      rcases hnew b hb' with q | q
      · exact (hU b (hV _ b hb)).1 (k3 b q)
      · have := (hU b (hV _ b hb)).2; omega
  · rcases hi with ⟨hi1, hi⟩ | ⟨hi1, hi⟩ <;> rcases hj with ⟨hj1, hj⟩ | ⟨hj1, hj⟩
    · exact k5 i j b hi hj
    · exact absurd (k4 i b hi).1 (hU b (hV _ b hj)).1
    · exact absurd (k4 j b hj).1 (hU b (hV _ b hi)).1
    · have := hVd _ _ b hi hj; omega
  · by_cases hm : m < xs.length
    · rw [List.getElem?_append_left hm] at hx
      obtain ⟨es, h2, h3⟩ := k6 m x hx
      refine ⟨es, by rw [List.getElem?_append_left (by omega)]; exact h2, E.omore (E.okeep h3 fun b hb => ?_) fun b hb => .inl ⟨hm, hb⟩⟩
      exact hch.block b (hrng b (k4 m b hb).1).2 fun q => (k4 m b hb).2 q
    · rw [List.getElem?_append_right (by omega)] at hx
      obtain ⟨es, h2, h3⟩ := hO _ x hx
      refine ⟨es, by rw [List.getElem?_append_right (by omega), k1]; exact h2, E.omore (E.okeep h3 fun b hb => ?_) fun b hb => .inr ⟨by omega, hb⟩⟩
      exact hch.block b (hU b (hV _ b hb)).2 fun q => (hU b (hV _ b hb)).1 (k3 b q)

theorem Held.mut2 {M : Nat → Prop} {w0 : World} {r s : Res} {rs : List Res} {w w' : World} (h : Held M w0 (r :: s :: rs) w) (hc : Chg r.S w w') (r' : Res) (hr : r'.φ w') (hS : ∀ b, r'.S b → r.S b ∨ s.S b ∨ (w.heap.size ≤ b ∧ b < w'.heap.size)) : Held M w0 (r' :: rs) w' := by
  have h1 : Held M w0 (⟨fun b => r.S b ∨ s.S b, fun _ => True, fun _ _ _ _ => trivial⟩ :: rs) w := h.join ⟨fun b => r.S b ∨ s.S b, fun _ => True, fun _ _ _ _ => trivial⟩ (fun _ _ _ => trivial) fun _ hb => hb
  have h2 := h1.mut (i := 0) rfl (hc.mono fun b hb => .inl hb) r' hr fun b hb => by
    rcases hS b hb with q | q | q
    · exact .inl (.inl q)
    · exact .inl (.inr q)
    · exact .inr q
  exact h2

/-- One element that owns memory is appended: the row, the element's block, the element. -/
theorem st_app1 {P : Program} {ops : Array Oper} {Q : Exit → Act → World → Prop} {a : Act} {w : World} {K : Act → World → Prop} {n d : Nat} {L : List (Nat × Value)} {M : Nat → Prop} {w0 : World} {rs rs' : List Res} {α : Type} {E : Enc α} {t e : TypeId} {bytes : Nat} {S U : Nat → Prop} {A : Option Addr} {c g : Nat} {xs : List α} {es : List Value} {y : α} {x1 x2 : Operand} {ty : TypeId} {pos : String} {af : Array Edge} {gd : Option (Nat × Bool)} (hE : Env n L a) (hH : Held M w0 rs w) (he : TSl P t e E.size bytes) (is : List Nat) (hn1 : is.Nodup) (his : pick rs is = some (rVec E e S A c xs :: rO E U es y :: rBlk g e es :: rs'))
    (hx1 : ev L x1 = some (.slice A xs.length c)) (hx2 : ev L x2 = some (.slice (some ⟨g, 0, none⟩) 1 1)) (h1 : ∀ u ∈ es, u.oneCell' = true) (h63 : xs.length + 1 ≤ maxLen) (hbytes : (xs.length + 1) * bytes ≤ 140737488355328) (hw : Region.wanted ⟨some d, .call { callee := .builtin .append, args := #[x1, x2], argTypes := #[t, t] }, ty, pos, af, gd⟩ (yielded ops a.tmps) = true) (hn : Nat.blt d n = true)
    (k : ∀ A' c' S' a' w', Env n ((d, .slice A' (xs ++ [y]).length c') :: L) a' → Held M w0 (rVec E e S' A' c' (xs ++ [y]) :: rBlk g e es :: rs') w' → K a' w') : Stp P ops Q ⟨some d, .call { callee := .builtin .append, args := #[x1, x2], argTypes := #[t, t] }, ty, pos, af, gd⟩ a w K := by
  have h := hH.sel is hn1 his
  have hB : Blk w g e es.toArray := h.ok (rBlk g e es) (by simp)
  have hO : E.O w U es y := h.ok (rO E U es y) (by simp)
  have hsep := List.pairwise_cons.1 h.sep
  obtain ⟨A', c', S', w', e1, e2, e3, e4⟩ := run_append_vec (U := U) he ty h ⟨g, 0, none⟩ [y] 1 [es] rfl (fun j u hu => by rw [add_none, Nat.zero_add, hB.cell]; simpa using hu) (by simpa using h1)
    (fun i b => i = 0 ∧ U b) (fun i b hb => hb.2) (fun i j b hi hj => by rw [hi.1, hj.1]) (fun i z hz => by
      rcases i with _ | i
      · simp at hz; subst hz; exact ⟨es, rfl, E.omore hO fun b hb => ⟨rfl, hb⟩⟩
      · simp at hz) (fun b hb => ⟨fun hb' => hsep.1 (rO E U es y) (by simp) b hb' hb, (h.rng (rO E U es y) (by simp) b hb).2⟩) h63 hbytes
  have h2 : Held M w0 (rVec E e S' A' c' (xs ++ [y]) :: rBlk g e es :: rs') w' := h.mut2 e3 (rVec E e S' A' c' (xs ++ [y])) e2 e4
  refine st_val hE hw ?_ rfl hn fun a' hE' => k A' c' S' a' w' hE' h2
  simp only [List.length_singleton] at e1
  simp only [execOp, resolve, invoke, builtin, Sem.run_bind, Sem.run_pure, Result.andThen_ok, List.map_toArray, List.map_cons, List.map_nil, hE.ev hx1, hE.ev hx2, e1]

abbrev tMultiRule : Type := Int × (List Int) × (List Int) × (List Int) × Int

abbrev eMultiRule : Enc tMultiRule := (ePr eInt (ePr (eSl eInt) (ePr (eSl eInt) (ePr (eSl eInt) eInt))))

theorem shape_MultiRule {w : World} {S : Nat → Prop} {es : List Value} {x : tMultiRule} (h : eMultiRule.R w S es x) : ∃ A1 c1 A2 c2 A3 c3, es = [.int .i64 x.1, .slice A1 x.2.1.length c1, .slice A2 x.2.2.1.length c2, .slice A3 x.2.2.2.1.length c3, .int .i64 x.2.2.2.2] ∧ I64 x.1 ∧ Sl eInt w S A1 c1 x.2.1 ∧ Sl eInt w S A2 c2 x.2.2.1 ∧ Sl eInt w S A3 c3 x.2.2.2.1 ∧ I64 x.2.2.2.2 := by
  obtain ⟨_, _, rfl, ⟨rfl, h0⟩, ⟨_, _, rfl, ⟨A1, c1, rfl, h1⟩, ⟨_, _, rfl, ⟨A2, c2, rfl, h2⟩, ⟨_, _, rfl, ⟨A3, c3, rfl, h3⟩, ⟨rfl, h4⟩⟩⟩⟩⟩ := h
  exact ⟨A1, c1, A2, c2, A3, c3, rfl, h0, h1, h2, h3, h4⟩

abbrev tMulti : Type := Int × Int × Int × (List tMultiRule)

abbrev eMulti : Enc tMulti := (ePr eInt (ePr eInt (ePr eInt (eSl eMultiRule))))

theorem shape_Multi {w : World} {S : Nat → Prop} {es : List Value} {x : tMulti} (h : eMulti.R w S es x) : ∃ A3 c3, es = [.int .i64 x.1, .int .i64 x.2.1, .int .i64 x.2.2.1, .slice A3 x.2.2.2.length c3] ∧ I64 x.1 ∧ I64 x.2.1 ∧ I64 x.2.2.1 ∧ Sl eMultiRule w S A3 c3 x.2.2.2 := by
  obtain ⟨_, _, rfl, ⟨rfl, h0⟩, ⟨_, _, rfl, ⟨rfl, h1⟩, ⟨_, _, rfl, ⟨rfl, h2⟩, ⟨A3, c3, rfl, h3⟩⟩⟩⟩ := h
  exact ⟨A3, c3, rfl, h0, h1, h2, h3⟩

/-- Equality of two lists, element by element. -/
def eqL {α : Type} (p : α → α → Bool) : List α → List α → Bool
  | [], [] => true
  | x :: xs, y :: ys => p x y && eqL p xs ys
  | _, _ => false

theorem eqL_refl {α : Type} {p : α → α → Bool} (hp : ∀ x, p x x = true) : ∀ xs : List α, eqL p xs xs = true
  | [] => rfl
  | x :: xs => by rw [eqL, hp, eqL_refl hp xs]; rfl

theorem eqL_len {α : Type} {p : α → α → Bool} : ∀ (xs ys : List α), xs.length ≠ ys.length → eqL p xs ys = false
  | [], [], h => absurd rfl h
  | [], _ :: _, _ => rfl
  | _ :: _, [], _ => rfl
  | x :: xs, y :: ys, h => by rw [eqL, eqL_len xs ys (by simpa using h)]; simp

theorem eqL_get {α : Type} {p : α → α → Bool} : ∀ (xs ys : List α) (k : Nat) (h1 : k < xs.length) (h2 : k < ys.length), p xs[k] ys[k] = false → eqL p xs ys = false
  | x :: xs, y :: ys, 0, _, _, h => by rw [eqL]; simp at h; rw [h]; rfl
  | x :: xs, y :: ys, k + 1, h1, h2, h => by rw [eqL, eqL_get xs ys k (by simpa using h1) (by simpa using h2) (by simpa using h)]; simp

theorem eqL_all {α : Type} {p : α → α → Bool} : ∀ (xs ys : List α), xs.length = ys.length → (∀ k (h1 : k < xs.length) (h2 : k < ys.length), p xs[k] ys[k] = true) → eqL p xs ys = true
  | [], [], _, _ => rfl
  | x :: xs, y :: ys, hl, h => by
    have e : p x y = true := h 0 (Nat.zero_lt_succ _) (Nat.zero_lt_succ _)
    have e' : eqL p xs ys = true := eqL_all xs ys (by simpa using hl) fun k h1 h2 => h (k + 1) (Nat.succ_lt_succ h1) (Nat.succ_lt_succ h2)
    rw [eqL, e, e']; rfl
  | [], _ :: _, hl, _ => by simp at hl
  | _ :: _, [], hl, _ => by simp at hl

theorem ret_int {k : IntKind} {a b : Int} (h : a = b) : Ending.returned (.int k a) = .returned (.int k b) := by rw [h]

def withinB (n lo hi : Int) : Bool := decide (lo ≤ n) && decide (n ≤ hi)

theorem withinB_true {n lo hi : Int} : withinB n lo hi = true ↔ lo ≤ n ∧ n ≤ hi := by
  unfold withinB; simp

theorem impl_within (n lo hi : Int) (w : World) :
    Calls Try.prog 69 #[.int .i64 n, .int .i64 lo, .int .i64 hi] w fun e w' => e = .returned (.bool (withinB n lo hi)) ∧ w = w' := by
  unfold withinB
  by_cases h1 : lo ≤ n
  · go_enter Try.func69, Try.ntmps69
    go_wp2
    go_ret
    exact ⟨by first | (simp; done) | simp [h1], rfl⟩
  · have h2 : decide (lo ≤ n) = false := by simpa using h1
    go_enter Try.func69, Try.ntmps69
    go_wp2
    go_ret
    exact ⟨by first | (simp; done) | simp [h2], rfl⟩

theorem spec_l00In (n lo hi : Int) (w : World) :
    Calls Try.prog 67 #[.int .i64 n, .int .i64 lo, .int .i64 hi] w fun e w' => e = .returned (.bool (withinB n lo hi)) ∧ w = w' := by
  unfold withinB
  by_cases h1 : lo ≤ n
  · go_enter Try.func67, Try.ntmps67
    go_wp2
    go_ret
    exact ⟨by first | (simp; done) | simp [h1], rfl⟩
  · have h2 : decide (lo ≤ n) = false := by simpa using h1
    go_enter Try.func67, Try.ntmps67
    go_wp2
    go_ret
    exact ⟨by first | (simp; done) | simp [h2], rfl⟩

theorem costL_take {α : Type} (f : α → Nat) (xs : List α) (k : Nat) (h : k < xs.length) : ((xs.take (k + 1)).map f).sum = ((xs.take k).map f).sum + f xs[k] := by
  rw [List.take_succ_eq_append_getElem h, List.map_append, List.sum_append]; simp only [List.map_cons, List.map_nil, List.sum_cons, List.sum_nil, Nat.add_zero]

theorem cost_le {α : Type} (f : α → Nat) (xs : List α) (k : Nat) : ((xs.take k).map f).sum ≤ (xs.map f).sum := by
  have h : (xs.map f).sum = ((xs.take k).map f).sum + ((xs.drop k).map f).sum := by
    rw [← List.sum_append, ← List.map_append, List.take_append_drop]
  omega

/-- What the size functions of the laws answer. -/
def left (l : Int) (n : Nat) : Int := if l - n < 0 then -1 else l - n

def eq_i (x y : Int) : Bool := x == y

def eq_L (x y : List Int) : Bool := eqL eq_i x y

theorem eq_i_refl (x : Int) : eq_i x x = true := by simp [eq_i]

theorem eq_L_refl (x : List Int) : eq_L x x = true := eqL_refl eq_i_refl x

def eq_MultiRule (x y : tMultiRule) : Bool := eq_i x.1 y.1 && eq_L x.2.1 y.2.1 && eq_L x.2.2.1 y.2.2.1 && eq_L x.2.2.2.1 y.2.2.2.1 && eq_i x.2.2.2.2 y.2.2.2.2

theorem eq_MultiRule_refl (x : tMultiRule) : eq_MultiRule x x = true := by unfold eq_MultiRule; simp [eq_L_refl, eq_i_refl]

def eq_SMultiRule (x y : List tMultiRule) : Bool := eqL eq_MultiRule x y

theorem eq_SMultiRule_refl (x : List tMultiRule) : eq_SMultiRule x x = true := eqL_refl eq_MultiRule_refl x

def eq_Multi (x y : tMulti) : Bool := eq_i x.1 y.1 && eq_i x.2.1 y.2.1 && eq_i x.2.2.1 y.2.2.1 && eq_SMultiRule x.2.2.2 y.2.2.2

theorem eq_Multi_refl (x : tMulti) : eq_Multi x x = true := by unfold eq_Multi; simp [eq_SMultiRule_refl, eq_i_refl]

set_option maxRecDepth 100000 in
set_option maxHeartbeats 1000000 in
theorem eq_L_c (A A' : Option Addr) (c c' : Nat) (xs ys : List Int) (w : World) (h : Sl eInt w (Old w) A c xs) (h' : Sl eInt w (Old w) A' c' ys) :
    Calls Try.prog 26 #[.slice A xs.length c, .slice A' ys.length c'] w fun e w' => e = .returned (.bool (eq_L xs ys)) ∧ Below w.heap.size w w' := by
  have hlen := h.len
  have hlen' := h'.len
  unfold eq_L
  by_cases hne : xs.length = ys.length
  · have hne' : ((xs.length : Int) != (ys.length : Int)) = false := by simp [hne]
    have HE := Lib.hid hne; clear hne
    have H := Lib.hid h; clear h
    have H' := Lib.hid h'; clear h'
    go_enter Try.func26, Try.ntmps26
    go_wp2
    clear hne'
    go_loopw [5] (fun s5 wr => ∃ k : Nat, k ≤ xs.length ∧ s5 = .int .i64 k ∧ Hid (Below w.heap.size w wr) ∧ Hid (∀ j (h1 : j < xs.length) (h2 : j < ys.length), j < k → eq_i xs[j] ys[j] = true)) (fun s5 _ => xs.length - (intOf s5).toNat)
    case atStart => exact ⟨0, Nat.zero_le _, rfl, Below.refl _ _, fun j _ _ h => absurd h (Nat.not_lt_zero _)⟩
    case round =>
      obtain ⟨k, hk, rfl, HL, HN⟩ := hrel
      by_cases hlt : k < xs.length
      · have hltz : (k : Int) < (xs.length : Int) := by omega
        have hlt' : k < ys.length := by have := HE.out; omega
        have hltz' : (k : Int) < (ys.length : Int) := by omega
        obtain ⟨bp, offp, esp, rfl, hbp, hR, hc⟩ := H.out.at1 rfl hlt
        obtain ⟨rfl, gp⟩ := hR
        have dp0 : wr.cell? ⟨bp, offp + k, none⟩ = some (.int .i64 xs[k]) := (below_olds HL.out _ hbp).trans (hc _ rfl)
        clear hc gp
        try clear hR
        obtain ⟨bq, offq, esq, rfl, hbq, hR, hc⟩ := H'.out.at1 rfl hlt'
        obtain ⟨rfl, gq⟩ := hR
        have dq0 : wr.cell? ⟨bq, offq + k, none⟩ = some (.int .i64 ys[k]) := (below_olds HL.out _ hbq).trans (hc _ rfl)
        clear hc gq
        try clear hR
        have HQ0 : Hid (eq_i xs[k] ys[k] = false → eqL eq_i xs ys = false) := eqL_get xs ys k hlt hlt'
        have HQ1 : Hid (eq_i xs[k] ys[k] = true → ∀ j (h1 : j < xs.length) (h2 : j < ys.length), j < k + 1 → eq_i xs[j] ys[j] = true) := fun e j h1 h2 hj => by
          by_cases ej : j = k
          · subst ej; exact e
          · exact HN.out j h1 h2 (by omega)
        generalize xs[k] = x at dp0 HQ0 HQ1
        generalize ys[k] = y at dq0 HQ0 HQ1
        cases hq : eq_i x y
        · have hq' : (x != y) = true := by simp [eq_i] at hq; simp [hq]
          go_wp2_with fail
          go_quiet (fail)
          go_wp2
          go_ret
          exact ⟨by rw [HQ0.out hq]; rfl, below_drewN HL.out _⟩
        · have hq' : (x != y) = false := by simp [eq_i] at hq; simp [hq]
          go_wp2_with fail
          go_quiet (fail)
          go_wp2
          go_roundw
          case rel => exact ⟨k + 1, by omega, by go_num, below_drewN HL.out _, HQ1.out hq⟩
          case measure => simp [intOf]; omega
      · have hltz : ¬ (k : Int) < (xs.length : Int) := by omega
        obtain rfl : k = xs.length := by omega
        go_wp2
        go_ret
        exact ⟨by rw [eqL_all xs ys HE.out fun j h1 h2 => HN.out j h1 h2 h1]; rfl, HL.out⟩
  · have hne' : ((xs.length : Int) != (ys.length : Int)) = true := by simp; omega
    rw [eqL_len xs ys hne]
    clear h h' hne
    go_enter Try.func26, Try.ntmps26
    go_wp2
    go_ret
    exact ⟨rfl, Below.refl _ _⟩

set_option maxHeartbeats 1000000 in
theorem eq_MultiRule_c (es es' : List Value) (x y : tMultiRule) (w : World) (h : eMultiRule.R w (Old w) es x) (h' : eMultiRule.R w (Old w) es' y) :
    Calls Try.prog 142 #[.agg es.toArray, .agg es'.toArray] w fun e w' => e = .returned (.bool (eq_MultiRule x y)) ∧ Below w.heap.size w w' := by
  obtain ⟨Ax1, cx1, Ax2, cx2, Ax3, cx3, rfl, gx0, gx1, gx2, gx3, gx4⟩ := shape_MultiRule h
  obtain ⟨Ay1, cy1, Ay2, cy2, Ay3, cy3, rfl, gy0, gy1, gy2, gy3, gy4⟩ := shape_MultiRule h'
  have HB0 := Lib.hid (((Below.refl w.heap.size w).alloc (Nat.le_refl _) (.cells #[.int .i64 x.1, .slice Ax1 x.2.1.length cx1, .slice Ax2 x.2.2.1.length cx2, .slice Ax3 x.2.2.2.1.length cx3, .int .i64 x.2.2.2.2] 95)).alloc (by simp) (.cells #[.int .i64 y.1, .slice Ay1 y.2.1.length cy1, .slice Ay2 y.2.2.1.length cy2, .slice Ay3 y.2.2.2.1.length cy3, .int .i64 y.2.2.2.2] 95))
  have HX1 := Lib.hid (gx1.on HB0.out); clear gx1
  have HY1 := Lib.hid (gy1.on HB0.out); clear gy1
  have HX2 := Lib.hid (gx2.on HB0.out); clear gx2
  have HY2 := Lib.hid (gy2.on HB0.out); clear gy2
  have HX3 := Lib.hid (gx3.on HB0.out); clear gx3
  have HY3 := Lib.hid (gy3.on HB0.out); clear gy3
  clear gx0 gy0 gx4 gy4
  cases t0 : eq_i x.1 y.1
  · rw [show eq_MultiRule x y = false from by unfold eq_MultiRule; simp [t0]]
    have t0' : (x.1 != y.1) = true := by simp only [eq_i] at t0; simp [bne, t0]
    go_enter Try.func142, Try.ntmps142
    go_wp2
    go_ret
    exact ⟨rfl, HB0.out⟩
  have t0' : (x.1 != y.1) = false := by simp only [eq_i] at t0; simp [bne, t0]
  cases t1 : eq_L x.2.1 y.2.1
  · rw [show eq_MultiRule x y = false from by unfold eq_MultiRule; simp [t0, t1]]
    go_enter Try.func142, Try.ntmps142
    go_wp2_with fail
    refine (eq_L_c _ _ _ _ x.2.1 y.2.1 _ HX1.out HY1.out).mono ?_
    rintro e w1 ⟨rfl, hb⟩
    rw [t1]
    have HB1 := Lib.hid hb
    clear hb
    obtain ⟨hc, hf⟩ := bcell HB1.out
    go_wp2
    go_ret
    exact ⟨rfl, below_trans HB0.out HB1.out⟩
  cases t2 : eq_L x.2.2.1 y.2.2.1
  · rw [show eq_MultiRule x y = false from by unfold eq_MultiRule; simp [t0, t1, t2]]
    go_enter Try.func142, Try.ntmps142
    go_wp2_with fail
    refine (eq_L_c _ _ _ _ x.2.1 y.2.1 _ HX1.out HY1.out).mono ?_
    rintro e w1 ⟨rfl, hb⟩
    rw [t1]
    have HB1 := Lib.hid hb
    clear hb
    obtain ⟨hc, hf⟩ := bcell HB1.out
    go_wp2_with fail
    refine (eq_L_c _ _ _ _ x.2.2.1 y.2.2.1 _ (HX2.out.on HB1.out) (HY2.out.on HB1.out)).mono ?_
    rintro e w2 ⟨rfl, hb⟩
    rw [t2]
    have HB2 := Lib.hid (below_trans HB1.out hb)
    clear hb
    obtain ⟨hc, hf⟩ := bcell HB2.out
    go_wp2
    go_ret
    exact ⟨rfl, below_trans HB0.out HB2.out⟩
  cases t3 : eq_L x.2.2.2.1 y.2.2.2.1
  · rw [show eq_MultiRule x y = false from by unfold eq_MultiRule; simp [t0, t1, t2, t3]]
    go_enter Try.func142, Try.ntmps142
    go_wp2_with fail
    refine (eq_L_c _ _ _ _ x.2.1 y.2.1 _ HX1.out HY1.out).mono ?_
    rintro e w1 ⟨rfl, hb⟩
    rw [t1]
    have HB1 := Lib.hid hb
    clear hb
    obtain ⟨hc, hf⟩ := bcell HB1.out
    go_wp2_with fail
    refine (eq_L_c _ _ _ _ x.2.2.1 y.2.2.1 _ (HX2.out.on HB1.out) (HY2.out.on HB1.out)).mono ?_
    rintro e w2 ⟨rfl, hb⟩
    rw [t2]
    have HB2 := Lib.hid (below_trans HB1.out hb)
    clear hb
    obtain ⟨hc, hf⟩ := bcell HB2.out
    go_wp2_with fail
    refine (eq_L_c _ _ _ _ x.2.2.2.1 y.2.2.2.1 _ (HX3.out.on HB2.out) (HY3.out.on HB2.out)).mono ?_
    rintro e w3 ⟨rfl, hb⟩
    rw [t3]
    have HB3 := Lib.hid (below_trans HB2.out hb)
    clear hb
    obtain ⟨hc, hf⟩ := bcell HB3.out
    go_wp2
    go_ret
    exact ⟨rfl, below_trans HB0.out HB3.out⟩
  cases t4 : eq_i x.2.2.2.2 y.2.2.2.2
  · rw [show eq_MultiRule x y = false from by unfold eq_MultiRule; simp [t0, t1, t2, t3, t4]]
    have t4' : (x.2.2.2.2 != y.2.2.2.2) = true := by simp only [eq_i] at t4; simp [bne, t4]
    go_enter Try.func142, Try.ntmps142
    go_wp2_with fail
    refine (eq_L_c _ _ _ _ x.2.1 y.2.1 _ HX1.out HY1.out).mono ?_
    rintro e w1 ⟨rfl, hb⟩
    rw [t1]
    have HB1 := Lib.hid hb
    clear hb
    obtain ⟨hc, hf⟩ := bcell HB1.out
    go_wp2_with fail
    refine (eq_L_c _ _ _ _ x.2.2.1 y.2.2.1 _ (HX2.out.on HB1.out) (HY2.out.on HB1.out)).mono ?_
    rintro e w2 ⟨rfl, hb⟩
    rw [t2]
    have HB2 := Lib.hid (below_trans HB1.out hb)
    clear hb
    obtain ⟨hc, hf⟩ := bcell HB2.out
    go_wp2_with fail
    refine (eq_L_c _ _ _ _ x.2.2.2.1 y.2.2.2.1 _ (HX3.out.on HB2.out) (HY3.out.on HB2.out)).mono ?_
    rintro e w3 ⟨rfl, hb⟩
    rw [t3]
    have HB3 := Lib.hid (below_trans HB2.out hb)
    clear hb
    obtain ⟨hc, hf⟩ := bcell HB3.out
    go_wp2
    go_ret
    exact ⟨rfl, below_trans HB0.out HB3.out⟩
  have t4' : (x.2.2.2.2 != y.2.2.2.2) = false := by simp only [eq_i] at t4; simp [bne, t4]
  rw [show eq_MultiRule x y = true from by unfold eq_MultiRule; simp [t0, t1, t2, t3, t4]]
  go_enter Try.func142, Try.ntmps142
  go_wp2_with fail
  refine (eq_L_c _ _ _ _ x.2.1 y.2.1 _ HX1.out HY1.out).mono ?_
  rintro e w1 ⟨rfl, hb⟩
  rw [t1]
  have HB1 := Lib.hid hb
  clear hb
  obtain ⟨hc, hf⟩ := bcell HB1.out
  go_wp2_with fail
  refine (eq_L_c _ _ _ _ x.2.2.1 y.2.2.1 _ (HX2.out.on HB1.out) (HY2.out.on HB1.out)).mono ?_
  rintro e w2 ⟨rfl, hb⟩
  rw [t2]
  have HB2 := Lib.hid (below_trans HB1.out hb)
  clear hb
  obtain ⟨hc, hf⟩ := bcell HB2.out
  go_wp2_with fail
  refine (eq_L_c _ _ _ _ x.2.2.2.1 y.2.2.2.1 _ (HX3.out.on HB2.out) (HY3.out.on HB2.out)).mono ?_
  rintro e w3 ⟨rfl, hb⟩
  rw [t3]
  have HB3 := Lib.hid (below_trans HB2.out hb)
  clear hb
  obtain ⟨hc, hf⟩ := bcell HB3.out
  go_wp2
  go_ret
  exact ⟨rfl, below_trans HB0.out HB3.out⟩

set_option maxRecDepth 100000 in
set_option maxHeartbeats 1000000 in
theorem eq_SMultiRule_c (A A' : Option Addr) (c c' : Nat) (xs ys : List tMultiRule) (w : World) (h : Sl eMultiRule w (Old w) A c xs) (h' : Sl eMultiRule w (Old w) A' c' ys) :
    Calls Try.prog 71 #[.slice A xs.length c, .slice A' ys.length c'] w fun e w' => e = .returned (.bool (eq_SMultiRule xs ys)) ∧ Below w.heap.size w w' := by
  have hlen := h.len
  have hlen' := h'.len
  unfold eq_SMultiRule
  by_cases hne : xs.length = ys.length
  · have hne' : ((xs.length : Int) != (ys.length : Int)) = false := by simp [hne]
    have HE := Lib.hid hne; clear hne
    have H := Lib.hid h; clear h
    have H' := Lib.hid h'; clear h'
    go_enter Try.func71, Try.ntmps71
    go_wp2
    clear hne'
    go_loopw [5] (fun s5 wr => ∃ k : Nat, k ≤ xs.length ∧ s5 = .int .i64 k ∧ Hid (Below w.heap.size w wr) ∧ Hid (∀ j (h1 : j < xs.length) (h2 : j < ys.length), j < k → eq_MultiRule xs[j] ys[j] = true)) (fun s5 _ => xs.length - (intOf s5).toNat)
    case atStart => exact ⟨0, Nat.zero_le _, rfl, Below.refl _ _, fun j _ _ h => absurd h (Nat.not_lt_zero _)⟩
    case round =>
      obtain ⟨k, hk, rfl, HL, HN⟩ := hrel
      by_cases hlt : k < xs.length
      · have hltz : (k : Int) < (xs.length : Int) := by omega
        have hlt' : k < ys.length := by have := HE.out; omega
        have hltz' : (k : Int) < (ys.length : Int) := by omega
        obtain ⟨bp, offp, esp, rfl, hbp, hR, hc⟩ := H.out.at hlt
        have HRp := Lib.hid (eMultiRule.on hR HL.out)
        obtain ⟨Ap1, cp1, Ap2, cp2, Ap3, cp3, rfl, gp0, gp1, gp2, gp3, gp4⟩ := shape_MultiRule hR
        have dp0 : wr.cell? ⟨bp, offp + k * 5, none⟩ = some (.int .i64 xs[k].1) := (below_olds HL.out _ hbp).trans (hc 0 _ rfl)
        have dp1 : wr.cell? ⟨bp, offp + k * 5 + 1, none⟩ = some (.slice Ap1 xs[k].2.1.length cp1) := (below_olds HL.out _ hbp).trans (hc 1 _ rfl)
        have dp2 : wr.cell? ⟨bp, offp + k * 5 + 2, none⟩ = some (.slice Ap2 xs[k].2.2.1.length cp2) := (below_olds HL.out _ hbp).trans (hc 2 _ rfl)
        have dp3 : wr.cell? ⟨bp, offp + k * 5 + 3, none⟩ = some (.slice Ap3 xs[k].2.2.2.1.length cp3) := (below_olds HL.out _ hbp).trans (hc 3 _ rfl)
        have dp4 : wr.cell? ⟨bp, offp + k * 5 + 4, none⟩ = some (.int .i64 xs[k].2.2.2.2) := (below_olds HL.out _ hbp).trans (hc 4 _ rfl)
        clear hc gp0 gp1 gp2 gp3 gp4
        try clear hR
        obtain ⟨bq, offq, esq, rfl, hbq, hR, hc⟩ := H'.out.at hlt'
        have HRq := Lib.hid (eMultiRule.on hR HL.out)
        obtain ⟨Aq1, cq1, Aq2, cq2, Aq3, cq3, rfl, gq0, gq1, gq2, gq3, gq4⟩ := shape_MultiRule hR
        have dq0 : wr.cell? ⟨bq, offq + k * 5, none⟩ = some (.int .i64 ys[k].1) := (below_olds HL.out _ hbq).trans (hc 0 _ rfl)
        have dq1 : wr.cell? ⟨bq, offq + k * 5 + 1, none⟩ = some (.slice Aq1 ys[k].2.1.length cq1) := (below_olds HL.out _ hbq).trans (hc 1 _ rfl)
        have dq2 : wr.cell? ⟨bq, offq + k * 5 + 2, none⟩ = some (.slice Aq2 ys[k].2.2.1.length cq2) := (below_olds HL.out _ hbq).trans (hc 2 _ rfl)
        have dq3 : wr.cell? ⟨bq, offq + k * 5 + 3, none⟩ = some (.slice Aq3 ys[k].2.2.2.1.length cq3) := (below_olds HL.out _ hbq).trans (hc 3 _ rfl)
        have dq4 : wr.cell? ⟨bq, offq + k * 5 + 4, none⟩ = some (.int .i64 ys[k].2.2.2.2) := (below_olds HL.out _ hbq).trans (hc 4 _ rfl)
        clear hc gq0 gq1 gq2 gq3 gq4
        try clear hR
        have HQ0 : Hid (eq_MultiRule xs[k] ys[k] = false → eqL eq_MultiRule xs ys = false) := eqL_get xs ys k hlt hlt'
        have HQ1 : Hid (eq_MultiRule xs[k] ys[k] = true → ∀ j (h1 : j < xs.length) (h2 : j < ys.length), j < k + 1 → eq_MultiRule xs[j] ys[j] = true) := fun e j h1 h2 hj => by
          by_cases ej : j = k
          · subst ej; exact e
          · exact HN.out j h1 h2 (by omega)
        generalize xs[k] = x at dp0 dp1 dp2 dp3 dp4 HRp HQ0 HQ1
        generalize ys[k] = y at dq0 dq1 dq2 dq3 dq4 HRq HQ0 HQ1
        go_wp2_with fail
        go_still_tail 8, (by kernel_rfl)
        cases hq : eq_MultiRule x y
        · go_wp2_with fail
          refine (eq_MultiRule_c _ _ x y _ (eMultiRule.on HRp.out (Below.refl _ _).drew) (eMultiRule.on HRq.out (Below.refl _ _).drew)).mono ?_
          rintro e w2 ⟨rfl, hb2⟩
          rw [hq]
          go_wp2
          go_ret
          exact ⟨by rw [HQ0.out hq]; rfl, HL.out.drew.trans (hb2.mono HL.out.size)⟩
        · go_wp2_with fail
          refine (eq_MultiRule_c _ _ x y _ (eMultiRule.on HRp.out (Below.refl _ _).drew) (eMultiRule.on HRq.out (Below.refl _ _).drew)).mono ?_
          rintro e w2 ⟨rfl, hb2⟩
          rw [hq]
          go_wp2
          go_roundw
          case rel => exact ⟨k + 1, by omega, by go_num, HL.out.drew.trans (hb2.mono HL.out.size), HQ1.out hq⟩
          case measure => simp [intOf]; omega
      · have hltz : ¬ (k : Int) < (xs.length : Int) := by omega
        obtain rfl : k = xs.length := by omega
        go_wp2
        go_ret
        exact ⟨by rw [eqL_all xs ys HE.out fun j h1 h2 => HN.out j h1 h2 h1]; rfl, HL.out⟩
  · have hne' : ((xs.length : Int) != (ys.length : Int)) = true := by simp; omega
    rw [eqL_len xs ys hne]
    clear h h' hne
    go_enter Try.func71, Try.ntmps71
    go_wp2
    go_ret
    exact ⟨rfl, Below.refl _ _⟩

set_option maxHeartbeats 1000000 in
theorem eq_Multi_c (es es' : List Value) (x y : tMulti) (w : World) (h : eMulti.R w (Old w) es x) (h' : eMulti.R w (Old w) es' y) :
    Calls Try.prog 17 #[.agg es.toArray, .agg es'.toArray] w fun e w' => e = .returned (.bool (eq_Multi x y)) ∧ Below w.heap.size w w' := by
  obtain ⟨Ax3, cx3, rfl, gx0, gx1, gx2, gx3⟩ := shape_Multi h
  obtain ⟨Ay3, cy3, rfl, gy0, gy1, gy2, gy3⟩ := shape_Multi h'
  have HB0 := Lib.hid (((Below.refl w.heap.size w).alloc (Nat.le_refl _) (.cells #[.int .i64 x.1, .int .i64 x.2.1, .int .i64 x.2.2.1, .slice Ax3 x.2.2.2.length cx3] 24)).alloc (by simp) (.cells #[.int .i64 y.1, .int .i64 y.2.1, .int .i64 y.2.2.1, .slice Ay3 y.2.2.2.length cy3] 24))
  have HX3 := Lib.hid (gx3.on HB0.out); clear gx3
  have HY3 := Lib.hid (gy3.on HB0.out); clear gy3
  clear gx0 gy0 gx1 gy1 gx2 gy2
  cases t0 : eq_i x.1 y.1
  · rw [show eq_Multi x y = false from by unfold eq_Multi; simp [t0]]
    have t0' : (x.1 != y.1) = true := by simp only [eq_i] at t0; simp [bne, t0]
    go_enter Try.func17, Try.ntmps17
    go_wp2
    go_ret
    exact ⟨rfl, HB0.out⟩
  have t0' : (x.1 != y.1) = false := by simp only [eq_i] at t0; simp [bne, t0]
  cases t1 : eq_i x.2.1 y.2.1
  · rw [show eq_Multi x y = false from by unfold eq_Multi; simp [t0, t1]]
    have t1' : (x.2.1 != y.2.1) = true := by simp only [eq_i] at t1; simp [bne, t1]
    go_enter Try.func17, Try.ntmps17
    go_wp2
    go_ret
    exact ⟨rfl, HB0.out⟩
  have t1' : (x.2.1 != y.2.1) = false := by simp only [eq_i] at t1; simp [bne, t1]
  cases t2 : eq_i x.2.2.1 y.2.2.1
  · rw [show eq_Multi x y = false from by unfold eq_Multi; simp [t0, t1, t2]]
    have t2' : (x.2.2.1 != y.2.2.1) = true := by simp only [eq_i] at t2; simp [bne, t2]
    go_enter Try.func17, Try.ntmps17
    go_wp2
    go_ret
    exact ⟨rfl, HB0.out⟩
  have t2' : (x.2.2.1 != y.2.2.1) = false := by simp only [eq_i] at t2; simp [bne, t2]
  cases t3 : eq_SMultiRule x.2.2.2 y.2.2.2
  · rw [show eq_Multi x y = false from by unfold eq_Multi; simp [t0, t1, t2, t3]]
    go_enter Try.func17, Try.ntmps17
    go_wp2_with fail
    refine (eq_SMultiRule_c _ _ _ _ x.2.2.2 y.2.2.2 _ HX3.out HY3.out).mono ?_
    rintro e w1 ⟨rfl, hb⟩
    rw [t3]
    have HB1 := Lib.hid hb
    clear hb
    obtain ⟨hc, hf⟩ := bcell HB1.out
    go_wp2
    go_ret
    exact ⟨rfl, below_trans HB0.out HB1.out⟩
  rw [show eq_Multi x y = true from by unfold eq_Multi; simp [t0, t1, t2, t3]]
  go_enter Try.func17, Try.ntmps17
  go_wp2_with fail
  refine (eq_SMultiRule_c _ _ _ _ x.2.2.2 y.2.2.2 _ HX3.out HY3.out).mono ?_
  rintro e w1 ⟨rfl, hb⟩
  rw [t3]
  have HB1 := Lib.hid hb
  clear hb
  obtain ⟨hc, hf⟩ := bcell HB1.out
  go_wp2
  go_ret
  exact ⟨rfl, below_trans HB0.out HB1.out⟩

theorem i64_small {x : Int} (h0 : 0 ≤ x) (h1 : x ≤ 1000000000000) : I64 x := ⟨by omega, by omega⟩

/-- How many numbers a list of elements takes. -/
def cntL {α : Type} (c : α → Nat) (xs : List α) : Nat := (xs.map c).sum

/-- The elements marked one after another from k on. -/
def mkL {α : Type} (f : α → Int → α) (c : α → Nat) : List α → Int → List α
  | [], _ => []
  | x :: xs, k => f x k :: mkL f c xs (k + c x)

theorem mkL_len {α : Type} (f : α → Int → α) (c : α → Nat) : ∀ (xs : List α) (k : Int), (mkL f c xs k).length = xs.length
  | [], _ => rfl
  | x :: xs, k => by rw [mkL, List.length_cons, mkL_len f c xs, List.length_cons]

theorem mkL_append {α : Type} (f : α → Int → α) (c : α → Nat) : ∀ (xs ys : List α) (k : Int), mkL f c (xs ++ ys) k = mkL f c xs k ++ mkL f c ys (k + cntL c xs)
  | [], ys, k => by simp [mkL, cntL]
  | x :: xs, ys, k => by
    rw [List.cons_append, mkL, mkL, mkL_append f c xs ys, List.cons_append]
    have : k + (c x : Int) + (cntL c xs : Int) = k + (cntL c (x :: xs) : Int) := by unfold cntL; simp only [List.map_cons, List.sum_cons]; omega
    rw [this]

theorem cntL_take {α : Type} (c : α → Nat) (xs : List α) (i : Nat) (h : i < xs.length) : cntL c (xs.take (i + 1)) = cntL c (xs.take i) + c xs[i] := costL_take c xs i h

theorem cntL_le {α : Type} (c : α → Nat) (xs : List α) (i : Nat) : cntL c (xs.take i) ≤ cntL c xs := cost_le c xs i

/-- What a marking loop has made after i rounds. -/
def mkTo {α : Type} (f : α → Int → α) (c : α → Nat) (xs : List α) (k : Int) (i : Nat) : List α := mkL f c (xs.take i) k ++ xs.drop i

theorem mkTo_zero {α : Type} (f : α → Int → α) (c : α → Nat) (xs : List α) (k : Int) : mkTo f c xs k 0 = xs := by simp [mkTo, mkL]

theorem mkTo_len {α : Type} (f : α → Int → α) (c : α → Nat) (xs : List α) (k : Int) (i : Nat) : (mkTo f c xs k i).length = xs.length := by
  unfold mkTo; rw [List.length_append, mkL_len, List.length_take, List.length_drop]; omega

theorem mkTo_end {α : Type} (f : α → Int → α) (c : α → Nat) (xs : List α) (k : Int) : mkTo f c xs k xs.length = mkL f c xs k := by simp [mkTo]

theorem mkTo_get {α : Type} (f : α → Int → α) (c : α → Nat) (xs : List α) (k : Int) (i : Nat) (h : i < xs.length) : (mkTo f c xs k i)[i]? = some xs[i] := by
  unfold mkTo
  rw [List.getElem?_append_right (by rw [mkL_len, List.length_take]; omega), mkL_len, List.length_take, List.getElem?_drop, show i + (i - min i xs.length) = i from by omega, List.getElem?_eq_getElem h]

theorem mkTo_step {α : Type} (f : α → Int → α) (c : α → Nat) (xs : List α) (k : Int) (i : Nat) (h : i < xs.length) : (mkTo f c xs k i).set i (f xs[i] (k + cntL c (xs.take i))) = mkTo f c xs k (i + 1) := by
  have hl : (mkL f c (xs.take i) k).length = i := by rw [mkL_len, List.length_take]; omega
  unfold mkTo
  rw [List.take_succ_eq_append_getElem h, mkL_append, List.drop_eq_getElem_cons h, List.set_append_right _ _ (by omega), hl, Nat.sub_self, List.set_cons_zero]
  simp [mkL]

theorem mkL_get {α : Type} (f : α → Int → α) (c : α → Nat) (xs : List α) (k : Int) (i : Nat) (h : i < xs.length) : (mkL f c xs k)[i]? = some (f xs[i] (k + cntL c (xs.take i))) := by
  have h1 : mkL f c xs k = mkL f c (xs.take i) k ++ mkL f c (xs.drop i) (k + cntL c (xs.take i)) := by rw [← mkL_append, List.take_append_drop]
  have hl : (mkL f c (xs.take i) k).length = i := by rw [mkL_len, List.length_take]; omega
  rw [h1, List.getElem?_append_right (by omega), hl, Nat.sub_self, List.drop_eq_getElem_cons h]
  rfl

def mk_i (_ : Int) (k : Int) : Int := k

def ct_i (_ : Int) : Nat := 1

def mk_L (xs : List Int) (k : Int) : List Int := mkL mk_i ct_i xs k

def ct_L (xs : List Int) : Nat := cntL ct_i xs

/-- As an element of a slice: every field is marked. -/
def mk_MultiRule (x : tMultiRule) (k : Int) : tMultiRule := (k, mk_L x.2.1 (k + 1), mk_L x.2.2.1 (k + 1 + ct_L x.2.1), mk_L x.2.2.2.1 (k + 1 + ct_L x.2.1 + ct_L x.2.2.1), k + 1 + ct_L x.2.1 + ct_L x.2.2.1 + ct_L x.2.2.2.1)

def ct_MultiRule (x : tMultiRule) : Nat := 1 + ct_L x.2.1 + ct_L x.2.2.1 + ct_L x.2.2.2.1 + 1

def mk_SMultiRule (xs : List tMultiRule) (k : Int) : List tMultiRule := mkL mk_MultiRule ct_MultiRule xs k

def ct_SMultiRule (xs : List tMultiRule) : Nat := cntL ct_MultiRule xs

/-- By value: what its slices lead to is marked. -/
def mv_Multi (x : tMulti) (k : Int) : tMulti := (x.1, x.2.1, x.2.2.1, mk_SMultiRule x.2.2.2 (k))

def cv_Multi (x : tMulti) : Nat := ct_SMultiRule x.2.2.2

set_option maxHeartbeats 1000000 in
theorem mark_L_c (A : Option Addr) (c : Nat) (xs : List Int) (k : Int) (w : World) (S : Nat → Prop) (h : So eInt w S A c xs) (_hS : ∀ b, S b → b < w.heap.size) (hk : 0 ≤ k) (hk' : k + (ct_L xs : Int) ≤ 1000000000000) :
    Calls Try.prog 34 #[.slice A xs.length c, .int .i64 k] w fun e w' => e = .returned (.int .i64 (k + (ct_L xs : Int))) ∧ So eInt w' S A c (mk_L xs k) ∧ Chg S w w' := by
  have hlen := h.sl.len
  clear _hS
  have H := Lib.hid h; clear h
  have HC : Hid (ct_L xs = cntL ct_i xs) := rfl
  go_enter Try.func34, Try.ntmps34
  go_wp2
  go_loopw [1, 5] (fun s1 s5 wr => ∃ (i : Nat) (q : Int), i ≤ xs.length ∧ s5 = .int .i64 i ∧ s1 = .int .i64 q ∧ 0 ≤ q ∧ q ≤ 1000000000000 ∧ Hid (q = k + (cntL ct_i (xs.take i) : Int)) ∧ Hid (So eInt wr S A c (mkTo mk_i ct_i xs k i)) ∧ Hid (Chg S w wr)) (fun _ s5 _ => xs.length - (intOf s5).toNat)
  case atStart => exact ⟨0, k, Nat.zero_le _, rfl, rfl, hk, by omega, by show _ = _; simp [cntL], by show So _ _ _ _ _ _; rw [mkTo_zero]; exact H.out, Chg.refl _ _⟩
  case round =>
    obtain ⟨i, q, hi, rfl, rfl, hq0, hq1, HQ, HS, HG⟩ := hrel
    by_cases hlt : i < xs.length
    · have hltz : (i : Int) < (xs.length : Int) := by omega
      have HQ2 : Hid (q + 1 ≤ 1000000000000 ∧ q + 1 = k + (cntL ct_i (xs.take (i + 1)) : Int)) := by
        have h1 := cntL_take ct_i xs i hlt
        have h2 := cntL_le ct_i xs (i + 1)
        have h3 : ct_i xs[i] = 1 := rfl
        have h4 := HQ.out
        have h5 := HC.out
        refine ⟨?_, ?_⟩ <;> omega
      have hq2 := HQ2.out.1
      obtain ⟨b, off, t, cur, T, es, rfl, hSb, hB, hT, hO, hcells, hre⟩ := HS.out.at (k := i) (by rw [mkTo_len]; exact hlt)
      have hel := eInt.len (eInt.read hO)
      obtain ⟨v0, hv0⟩ : ∃ v, cur[off + i]? = some v := ⟨_, by have h := hcells 0 _ (List.getElem?_eq_getElem (by rw [hel]; decide)); rw [show off + i * eInt.size + 0 = off + i from by show off + i * 1 + 0 = _; omega] at h; exact h⟩
      have e0 : wr.cell? ⟨b, off + i, none⟩ = some v0 := (hB.cell _).trans hv0
      have f0 := hB.frozen (off + i)
      clear hv0
      have HB := Lib.hid hB; clear hB hcells hel
      have HRE : Hid (So eInt (wr.setCell ⟨b, off + i, none⟩ (.int .i64 (q))) S (some ⟨b, off, none⟩) c (mkTo mk_i ct_i xs k (i + 1))) := by
        show So _ _ _ _ _ _
        rw [← mkTo_step mk_i ct_i xs k i hlt, ← HQ.out]
        refine hre _ [.int .i64 (q)] _ (oI (i64_small (by omega) (by omega))) ?_ (fun m hm hne _ => ?_)
        · rw [show off + i * eInt.size = off + i from by show off + i * 1 = _; omega]; exact HB.out.set _ _
        · rw [Below.heap_setCell _ _ _ _ (by exact hne)]
      clear hre hO hT
      have HG2 : Hid (Chg S w (wr.setCell ⟨b, off + i, none⟩ (.int .i64 (q)))) := (HG.out.set (by exact hSb) _)
      have HSB := Lib.hid hSb; clear hSb
      go_wp2
      go_roundw
      case rel => exact ⟨i + 1, q + 1, by omega, by go_num, rfl, by omega, by omega, by show _ = _; have := HQ2.out.2; omega, HRE.out, HG2.out⟩
      case measure => simp [intOf]; omega
    · have hltz : ¬ (i : Int) < (xs.length : Int) := by omega
      obtain rfl : i = xs.length := by omega
      have h2 := HQ.out
      rw [List.take_length] at h2
      have h3 := HS.out
      rw [mkTo_end] at h3
      have H2 := Lib.hid h2; have H3 := Lib.hid h3; clear h2 h3
      go_wp2
      go_ret
      exact ⟨ret_int (by rw [H2.out, HC.out]), H3.out, HG.out⟩

set_option maxHeartbeats 1000000 in
theorem held_L_c (A : Option Addr) (c : Nat) (xs : List Int) (k : Int) (w : World) (h : Sl eInt w (Old w) A c (mk_L xs k)) (hk : 0 ≤ k) (hk' : k + (ct_L xs : Int) ≤ 1000000000000) :
    Calls Try.prog 46 #[.slice A xs.length c, .int .i64 k] w fun e w' => e = .returned (.int .i64 (k + (ct_L xs : Int))) ∧ Below w.heap.size w w' := by
  have hlen := h.len
  have hL : (mk_L xs k).length = xs.length := mkL_len _ _ _ _
  rw [hL] at hlen
  have HLen := Lib.hid hL; clear hL
  have H := Lib.hid h; clear h
  have HC : Hid (ct_L xs = cntL ct_i xs) := rfl
  go_enter Try.func46, Try.ntmps46
  go_wp2
  go_loop [1, 5] (fun s1 s5 => ∃ (i : Nat) (q : Int), i ≤ xs.length ∧ s5 = .int .i64 i ∧ s1 = .int .i64 q ∧ 0 ≤ q ∧ q ≤ 1000000000000 ∧ Hid (q = k + (cntL ct_i (xs.take i) : Int))) (fun _ s5 => xs.length - (intOf s5).toNat)
  case atStart => exact ⟨0, k, Nat.zero_le _, rfl, rfl, hk, by omega, by show _ = _; simp [cntL]⟩
  case round =>
    obtain ⟨i, q, hi, rfl, rfl, hq0, hq1, HQ⟩ := hrel
    by_cases hlt : i < xs.length
    · have hltz : (i : Int) < (xs.length : Int) := by omega
      have HQ2 : Hid (q + 1 ≤ 1000000000000 ∧ q + 1 = k + (cntL ct_i (xs.take (i + 1)) : Int)) := by
        have h1 := cntL_take ct_i xs i hlt
        have h2 := cntL_le ct_i xs (i + 1)
        have h3 : ct_i xs[i] = 1 := rfl
        have h4 := HQ.out
        have h5 := HC.out
        refine ⟨?_, ?_⟩ <;> omega
      have hq2 := HQ2.out.1
      have hlt2 : i < (mk_L xs k).length := by rw [HLen.out]; exact hlt
      have HE : Hid ((mk_L xs k)[i] = mk_i xs[i] q) := by
        have h1 := mkL_get mk_i ct_i xs k i hlt
        rw [← HQ.out] at h1
        exact Option.some.inj ((List.getElem?_eq_getElem hlt2).symm.trans h1)
      obtain ⟨b, off, es, rfl, hb, hR, hc⟩ := H.out.at1 rfl hlt2
      rw [HE.out] at hR
      obtain ⟨rfl, gq⟩ := hR
      have d0 : w.cell? ⟨b, off + i, none⟩ = some (.int .i64 q) := hc _ rfl
      have t0 : (q != q) = false := by simp
      clear hc gq
      try clear hR
      go_wp2
      go_round
      case rel => exact ⟨i + 1, q + 1, by omega, by go_num, rfl, by omega, by omega, by show _ = _; have := HQ2.out.2; omega⟩
      case measure => simp [intOf]; omega
    · have hltz : ¬ (i : Int) < (xs.length : Int) := by omega
      obtain rfl : i = xs.length := by omega
      have h2 := HQ.out
      rw [List.take_length] at h2
      have H2 := Lib.hid h2; clear h2
      go_wp2
      go_ret
      exact ⟨ret_int (by rw [H2.out, HC.out]), Below.refl _ _⟩

theorem So.take {α : Type} {E : Enc α} {w : World} {S : Nat → Prop} {A : Option Addr} {c : Nat} {xs : List α} (h : So E w S A c xs) (k : Nat) : So E w S A c (xs.take k) :=
  ⟨by have := h.1; rw [List.length_take]; omega, h.2.1, fun hn => by
    obtain ⟨b, off, t, cur, T, hA, hb, hB, hT, hd, hc⟩ := h.2.2 (by rintro rfl; simp at hn)
    refine ⟨b, off, t, cur, T, hA, hb, hB, hT, hd, fun i x hx => hc i x ?_⟩
    rw [List.getElem?_take] at hx
    split at hx
    · exact hx
    · cases hx⟩

theorem Sl.take {α : Type} {E : Enc α} {w : World} {S : Nat → Prop} {A : Option Addr} {c : Nat} {xs : List α} (h : Sl E w S A c xs) (k : Nat) : Sl E w S A c (xs.take k) :=
  ⟨by have := h.1; rw [List.length_take]; omega, h.2.1, fun hn => by
    obtain ⟨b, off, hA, hb, hc⟩ := h.2.2 (by rintro rfl; simp at hn)
    refine ⟨b, off, hA, hb, fun i x hx => hc i x ?_⟩
    rw [List.getElem?_take] at hx
    split at hx
    · exact hx
    · cases hx⟩

def evp (L : List (Nat × Value)) : List (Nat × Operand) → Option (List (Nat × Value))
  | [] => some []
  | (i, x) :: xs => match ev L x, evp L xs with
    | some v, some vs => some ((i, v) :: vs)
    | _, _ => none

theorem evp_map {n : Nat} {L : List (Nat × Value)} {a : Act} (hE : Env n L a) : ∀ (xs : List (Nat × Operand)) (vs : List (Nat × Value)), evp L xs = some vs → (xs.map fun p => (p.1, a.eval p.2)) = vs
  | [], vs, h => by simp [evp] at h; subst h; rfl
  | (i, x) :: xs, vs, h => by
    simp only [evp] at h
    cases h1 : ev L x with
    | none => simp [h1] at h
    | some v =>
      cases h2 : evp L xs with
      | none => simp [h1, h2] at h
      | some us =>
        simp [h1, h2] at h
        subst h
        rw [List.map_cons, hE.ev h1, evp_map hE xs us h2]

def setP (cs : List Value) : List (Nat × Value) → List Value
  | [] => cs
  | p :: r => setP (cs.set p.1 p.2) r

theorem one_cells {v : Value} (h : v.oneCell' = true) : v.cells = #[v] := by cases v <;> first | rfl | (simp [Value.oneCell'] at h)

theorem fill_one {pl : Array (Nat × Nat)} {m : Nat} (hp : ∀ i, i < m → pl[i]? = some (i, 1)) : ∀ (vs : List (Nat × Value)) (cs : List Value), cs.length = m → (∀ p ∈ vs, p.1 < m ∧ p.2.oneCell' = true) → Instr.fill (fun i => pl[i]?) cs.toArray vs = some (setP cs vs).toArray
  | [], cs, _, _ => rfl
  | p :: r, cs, hl, h => by
    obtain ⟨i, v⟩ := p
    have hi := h (i, v) (by simp)
    have ih := fill_one hp r (cs.set i v) (by simpa using hl) (fun q hq => h q (by simp [hq]))
    have h2 : i + 1 ≤ cs.length := by have := hi.1; omega
    have h3 : ¬ (cs.toArray.size < i + 1) := by simp; omega
    simp only [Instr.fill, hp i hi.1, one_cells hi.2]
    simp [setP, ← ih, h3, h2]
    intro h4; omega

/-- What is known of a struct type whose fields take a cell each. -/
structure TB (P : Program) (t : TypeId) (zs : List Value) : Prop where
  tv : TV P t true zs
  under : ∃ fs pl, P.underlying t = some (.struct fs) ∧ (∀ w, (fs.mapM fun (f : Field) => (do pure (f.offset, ← sizeOf f.type) : Sem (Nat × Nat))).run P w = .ok pl w) ∧ ∀ i, i < zs.length → pl[i]? = some (i, 1)

theorem x_build {P : Program} {S : World → Prop} {L : List (Nat × Value)} {d : Option Tmp} {t : TypeId} {ps : List (Nat × Operand)} {vs : List (Nat × Value)} {zs : List Value} {ty : TypeId} {pos : String} {af : Array Edge} {g : Option (Nat × Bool)} (ht : TB P t zs) (he : evp L ps = some vs) (hv : ∀ p ∈ vs, p.1 < zs.length ∧ p.2.oneCell' = true) : XS P S L ⟨d, .build t ps.toArray, ty, pos, af, g⟩ (.agg (setP zs vs).toArray) := fun _ a w hE _ => by
  obtain ⟨fs, pl, h1, h2, h3⟩ := ht.under
  obtain ⟨i, z, e1, e2, e3, e4⟩ := ht.tv.info
  have hf := fill_one h3 vs zs rfl hv
  have hm := evp_map hE ps vs he
  have hz : (zeroValue t).run P w = .ok z w := by simp [zeroValue, typeInfo, e1, e2]
  simp only [execOp, Instr.build, List.map_toArray, hm, Sem.run_bind, hz, Result.andThen_ok, run_underlying h1, h2 w, e4]
  simp [hf]

theorem foldl_setAll (off : Nat) : ∀ (vs : List Value) (k : Nat) (cs : Array Value), (vs.zipIdx k).foldl (fun cs (p : Value × Nat) => cs.setIfInBounds (off + p.2) p.1) cs = setAll cs (off + k) vs
  | [], _, _ => rfl
  | v :: vs, k, cs => by
    rw [List.zipIdx_cons, List.foldl_cons, foldl_setAll off vs (k + 1)]
    rfl

theorem setAll_split (pre mid post vs : List Value) (h : mid.length = vs.length) : setAll (pre ++ mid ++ post).toArray pre.length vs = (pre ++ vs ++ post).toArray := by
  apply Array.ext_getElem?
  intro i
  rw [get_setAll _ _ _ _ (by simp; omega)]
  by_cases h1 : pre.length ≤ i ∧ i < pre.length + vs.length
  · rw [if_pos h1]
    simp only [List.getElem?_toArray]
    rw [List.append_assoc, List.getElem?_append_right h1.1, List.getElem?_append_left (by omega)]
  · rw [if_neg h1]
    simp only [List.getElem?_toArray, List.append_assoc]
    by_cases h2 : i < pre.length
    · rw [List.getElem?_append_left h2, List.getElem?_append_left h2]
    · rw [List.getElem?_append_right (by omega), List.getElem?_append_right (by omega), List.getElem?_append_right (by omega), List.getElem?_append_right (by omega), h]

def numb (j : Nat) : List Value → List (Nat × Value)
  | [] => []
  | v :: vs => (j, v) :: numb (j + 1) vs

theorem fill_all (sz : Nat) : ∀ (vs : List Value) (j : Nat) (pre post : List Value), pre.length = j * sz → post.length = vs.length * sz → (∀ v ∈ vs, v.cells.size = sz) → Instr.fill (fun i => some (i * sz, sz)) (pre ++ post).toArray (numb j vs) = some (pre ++ (vs.map fun v => v.cells.toList).flatten).toArray
  | [], j, pre, post, _, h2, _ => by
    have : post = [] := List.eq_nil_of_length_eq_zero (by simpa using h2)
    subst this; simp [numb, Instr.fill]
  | v :: vs, j, pre, post, h1, h2, h3 => by
    have hv := h3 v (by simp)
    rw [List.length_cons, Nat.succ_mul] at h2
    have hsp : post = post.take sz ++ post.drop sz := (List.take_append_drop sz post).symm
    have hl : (post.take sz).length = v.cells.toList.length := by rw [List.length_take]; simp [hv]; omega
    have hset := setAll_split pre (post.take sz) (post.drop sz) v.cells.toList hl
    have ih := fill_all sz vs (j + 1) (pre ++ v.cells.toList) (post.drop sz) (by simp [h1, hv, Nat.succ_mul]) (by rw [List.length_drop]; omega) (fun u hu => h3 u (by simp [hu]))
    have hfold : v.cells.zipIdx.foldl (fun cs (p : Value × Nat) => cs.setIfInBounds (j * sz + p.2) p.1) (pre ++ post).toArray = (pre ++ v.cells.toList ++ post.drop sz).toArray := by
      rw [← Array.foldl_toList, Array.toList_zipIdx, foldl_setAll, Nat.add_zero, ← h1, ← hset, List.append_assoc, ← hsp]
    have hle : ¬ ((pre ++ post).toArray.size < j * sz + sz) := by simp; omega
    have hc : (v.cells.size ≠ sz || decide (j * sz + v.cells.size > (pre ++ post).toArray.size)) = false := by
      rw [hv]; simp; omega
    simp only [numb, Instr.fill]
    rw [if_neg (by rw [hc]; simp)]
    rw [show (v.cells.zipIdx.foldl (fun cs x => match x with | (c, j_1) => cs.setIfInBounds (j * sz + j_1) c) (pre ++ post).toArray) = (pre ++ v.cells.toList ++ post.drop sz).toArray from hfold, ih]
    simp

/-- A slice literal, all of its elements given. -/
theorem run_lit {P : Program} {n m : Nat} {a : Act} {L : List (Nat × Value)} {w : World} {t e : TypeId} {sz by_ : Nat} {ps : List (Nat × Operand)} {vs : List Value} {cs : List Value} {d : Option Tmp} {ty : TypeId} {pos : String} {af : Array Edge} {g : Option (Nat × Bool)} (hT : TSl P t e sz by_) (hE : Env n L a) (he : evp L ps = some (numb 0 vs)) (hm : vs.length = m) (hv : ∀ v ∈ vs, v.cells.size = sz) (hcs : (vs.map fun v => v.cells.toList).flatten = cs) (hb : m * sz ≤ 16777216) :
    (execOp a.eval ⟨d, .buildSlice t m ps.toArray, ty, pos, af, g⟩).run P w = .ok (.value (.slice (some ⟨w.heap.size, 0, none⟩) m m)) (w.alloc (.cells cs.toArray e)) := by
  obtain ⟨i, z, e1, e2, e3, e4, e5⟩ := hT.info
  subst hm hcs
  have hE' := evp_map hE ps _ he
  have hb' : ¬ (vs.length * i.size > 2 ^ 24) := by rw [e3]; omega
  have key : ∀ zero : Array Value, Instr.fill (fun i_1 => some (i_1 * i.size, i.size)) ((Array.range (vs.length * i.size)).map (zero[· % zero.size]!)) (numb 0 vs) = some (vs.map fun v => v.cells.toList).flatten.toArray := by
    intro zero
    have := fill_all sz vs 0 [] ((Array.range (vs.length * i.size)).map (zero[· % zero.size]!)).toList (by simp) (by simp [e3]) hv
    simp only [List.nil_append, Array.toArray_toList] at this
    rw [e3] at this ⊢; exact this
  simp only [execOp, Instr.buildSlice, List.map_toArray, hE', Sem.run_bind, run_underlying hT.under, Result.andThen_ok, sizeOf, typeInfo, run_program, e1, Sem.run_pure, hb', if_false]
  by_cases h0 : vs.length * i.size = 0
  · simp [h0, newRow] at key ⊢
    have := key #[]
    simp at this
    simp [this]
  · simp [h0, zeroValue, typeInfo, e1, e2, newRow, key]

theorem lkI {t : Nat} {L : List (Nat × Value)} {q : IntKind} {x y : Int} (h : lk t L = some (.int q x)) (e : x = y) : lk t L = some (.int q y) := e ▸ h

theorem Held.to {M : Nat → Prop} {w0 : World} {rs rs' : List Res} {w : World} (h : Held M w0 rs w) (e : rs = rs') : Held M w0 rs' w := e ▸ h

theorem Held.flatO {M : Nat → Prop} {w0 : World} {rs : List Res} {w : World} (h : Held M w0 rs w) {α : Type} {E : Enc α} {cs : List Value} {x : α} (ho : ∀ W, E.O W Nob cs x) : Held M w0 (rO E Nob cs x :: rs) w := h.new (Below.refl _ _) (rO E Nob cs x) (ho w) fun _ h => h.elim

theorem oPrN {α β : Type} {E : Enc α} {F : Enc β} {w : World} {c1 c2 : List Value} {x : α} {y : β} (h1 : E.O w Nob c1 x) (h2 : F.O w Nob c2 y) : (ePr E F).O w Nob (c1 ++ c2) (x, y) := ⟨c1, c2, Nob, Nob, rfl, fun b hb => hb.elim, fun b hb => hb, h1, h2⟩

theorem tv_parts {P : Program} {t : TypeId} {z : Value} {n : Nat} (h : (P.info? t).map (fun i => (i.zero, i.size)) = some (some z, n)) : ∃ i, P.info? t = some i ∧ i.zero = some z ∧ i.size = n := by
  cases hi : P.info? t with
  | none => rw [hi] at h; cases h
  | some i =>
    rw [hi] at h
    simp only [Option.map_some, Option.some.injEq, Prod.mk.injEq] at h
    exact ⟨i, rfl, h.1, h.2⟩

theorem ts_parts {P : Program} {t : TypeId} {z : Value} {n b : Nat} (h : (P.info? t).map (fun i => (i.zero, i.size, i.bytes)) = some (some z, n, b)) : ∃ i, P.info? t = some i ∧ i.zero = some z ∧ i.size = n ∧ i.bytes = b := by
  cases hi : P.info? t with
  | none => rw [hi] at h; cases h
  | some i =>
    rw [hi] at h
    simp only [Option.map_some, Option.some.injEq, Prod.mk.injEq] at h
    exact ⟨i, rfl, h.1, h.2.1, h.2.2⟩

theorem Env.castI {n t : Nat} {L : List (Nat × Value)} {a : Act} {q : IntKind} {x y : Int} (h : Env n L a) (hl : lk t L = some (.int q x)) (e : x = y) : Env n ((t, .int q y) :: L) a :=
  h.sub' fun s v hv => by
    simp only [lk] at hv
    by_cases hs : Nat.beq s t = true
    · rw [hs] at hv
      have hs' := Nat.eq_of_beq_eq_true hs
      subst hs' e
      simp at hv
      rw [hl, hv]
    · have hs' : Nat.beq s t = false := Bool.eq_false_iff.2 hs
      rw [hs'] at hv; exact hv

/-- A captured variable's cell, as a closure sees it. -/
theorem Held.capB {M : Nat → Prop} {w0 : World} {rs : List Res} {w W : World} {g : Nat} {t : TypeId} {cs : List Value} (h : Held M w0 rs w) (i : Nat) (hi : rs[i]? = some (rBlk g t cs)) (hb : Below w.heap.size w W) : ∀ j v, cs[j]? = some v → W.cell? ⟨g, 0 + j, none⟩ = some v := fun j v hv => by
  have hlt := (h.rng _ (List.mem_of_getElem? hi) g rfl).2
  rw [hb.cell (p := ⟨g, 0 + j, none⟩) hlt]
  exact c_blkN i hi w h j v hv

theorem Env.castS {n t m m' c : Nat} {A : Option Addr} {L : List (Nat × Value)} {a : Act} (h : Env n L a) (hl : lk t L = some (.slice A m c)) (e : m = m') : Env n ((t, .slice A m' c) :: L) a :=
  h.sub' fun s v hv => by
    simp only [lk] at hv
    by_cases hs : Nat.beq s t = true
    · rw [hs] at hv
      have hs' := Nat.eq_of_beq_eq_true hs
      subst hs' e
      simp at hv
      rw [hl, hv]
    · have hs' : Nat.beq s t = false := Bool.eq_false_iff.2 hs
      rw [hs'] at hv; exact hv

/-- What was there, outside M. -/
def Out (M : Nat → Prop) (w : World) (b : Nat) : Prop := b < w.heap.size ∧ ¬ M b

/-- The blocks of some parts. -/
def Foot (xs : List Res) (b : Nat) : Prop := ∃ r ∈ xs, r.S b

theorem Held.startM {w : World} {α : Type} {E : Enc α} {S : Nat → Prop} {cs : List Value} {x : α} (ho : E.O w S cs x) (hS : ∀ b, S b → b < w.heap.size) : Held S w [rO E S cs x] w :=
  ⟨Chg.refl _ _, (fun r hr => by simp at hr; subst hr; exact ho), (fun r hr b hb => by simp at hr; subst hr; exact ⟨.inl hb, hS b hb⟩), by simp⟩

theorem Held.focus {M0 : Nat → Prop} {w0 : World} {xs rs : List Res} {w : World} (h : Held M0 w0 (xs ++ rs) w) : Held (Foot xs) w xs w :=
  ⟨Chg.refl _ _, fun r hr => h.ok r (by simp [hr]), fun r hr b hb => ⟨.inl ⟨r, hr, hb⟩, (h.rng r (by simp [hr]) b hb).2⟩, (List.pairwise_append.1 h.sep).1⟩

theorem Held.back {M0 : Nat → Prop} {w0 : World} {xs ys rs : List Res} {w w' : World} (h : Held M0 w0 (xs ++ rs) w) (h' : Held (Foot xs) w ys w') : Held M0 w0 (ys ++ rs) w' where
  chg := by
    refine ⟨h'.chg.os.trans h.chg.os, h'.chg.tape.trans h.chg.tape, h'.chg.output.trans h.chg.output, Nat.le_trans h.chg.size h'.chg.size, fun k hk hM => ?_⟩
    refine (h'.chg.block k (Nat.lt_of_lt_of_le hk h.chg.size) ?_).trans (h.chg.block k hk hM)
    rintro ⟨r, hr, hb⟩
    rcases (h.rng r (by simp [hr]) k hb).1 with q | q
    · exact hM q
    · omega
  ok := by
    intro r hr
    rcases List.mem_append.1 hr with hr | hr
    · exact h'.ok r hr
    · refine r.loc w w' (fun b hb => h'.chg.block b (h.rng r (by simp [hr]) b hb).2 ?_) (h.ok r (by simp [hr]))
      rintro ⟨s, hs, hb'⟩
      exact (List.pairwise_append.1 h.sep).2.2 s hs r hr b hb' hb
  rng := by
    intro r hr b hb
    rcases List.mem_append.1 hr with hr | hr
    · obtain ⟨h1, h2⟩ := h'.rng r hr b hb
      refine ⟨?_, h2⟩
      rcases h1 with ⟨s, hs, hb'⟩ | h1
      · exact (h.rng s (by simp [hs]) b hb').1
      · exact .inr (Nat.le_trans h.size h1)
    · have h1 := h.rng r (by simp [hr]) b hb
      exact ⟨h1.1, Nat.lt_of_lt_of_le h1.2 h'.chg.size⟩
  sep := by
    refine List.pairwise_append.2 ⟨h'.sep, (List.pairwise_append.1 h.sep).2.1, fun r hr s hs b hb hb' => ?_⟩
    rcases (h'.rng r hr b hb).1 with ⟨q, hq, hb2⟩ | h1
    · exact (List.pairwise_append.1 h.sep).2.2 q hq s hs b hb2 hb'
    · have := (h.rng s (by simp [hs]) b hb').2; omega

theorem Held.oldM {M : Nat → Prop} {w0 : World} {rs : List Res} {w : World} {α : Type} {E : Enc α} {A : Option Addr} {c : Nat} {xs : List α} (h : Held M w0 rs w) (hs : Sl E w0 (Out M w0) A c xs) : Sl E w (Old w) A c xs :=
  (hs.keep (fun p hp => World.cell?_of_block (w := w0) (h.chg.block p.block hp.1 hp.2))).more fun b hb => Nat.lt_of_lt_of_le hb.1 h.chg.size

theorem Held.oldRM {M : Nat → Prop} {w0 : World} {rs : List Res} {w : World} {α : Type} {E : Enc α} {cs : List Value} {x : α} (h : Held M w0 rs w) (hs : E.R w0 (Out M w0) cs x) : E.R w (Old w) cs x :=
  E.more (E.keep hs (fun p hp => World.cell?_of_block (w := w0) (h.chg.block p.block hp.1 hp.2))) fun b hb => Nat.lt_of_lt_of_le hb.1 h.chg.size

/-- A borrowed slice, as a callee that rewrites xs sees it. -/
theorem Held.lend {w0 : World} {xs rs : List Res} {w : World} {α : Type} {E : Enc α} {A : Option Addr} {c : Nat} {zs : List α} (h : Held Nob w0 (xs ++ rs) w) (hs : Sl E w0 (Old w0) A c zs) : Sl E w (Out (Foot xs) w) A c zs :=
  (hs.keep (fun p hp => h.cell0 hp fun h => h)).more fun b hb => ⟨Nat.lt_of_lt_of_le hb h.size, by
    rintro ⟨r, hr, hb'⟩
    rcases (h.rng r (by simp [hr]) b hb').1 with q | q
    · exact q.elim
    · have : b < w0.heap.size := hb
      omega⟩

theorem Held.lendM {M : Nat → Prop} {w0 : World} {xs rs : List Res} {w : World} {α : Type} {E : Enc α} {A : Option Addr} {c : Nat} {zs : List α} (h : Held M w0 (xs ++ rs) w) (hs : Sl E w0 (Out M w0) A c zs) : Sl E w (Out (Foot xs) w) A c zs :=
  (hs.keep (fun p hp => h.cell0 hp.1 hp.2)).more fun b hb => ⟨Nat.lt_of_lt_of_le hb.1 h.size, by
    rintro ⟨r, hr, hb'⟩
    rcases (h.rng r (by simp [hr]) b hb').1 with q | q
    · exact hb.2 q
    · have : b < w0.heap.size := hb.1
      omega⟩

/-- The flat part in front given up. -/
theorem Held.unF {M : Nat → Prop} {w0 : World} {rs : List Res} {w : World} {α β : Type} {E : Enc α} {F : Enc β} {S : Nat → Prop} {v : Value} {cs : List Value} {x : α × β} (h1 : E.size = 1) (h : Held M w0 (rO (ePr E F) S (v :: cs) x :: rs) w) : Held M w0 (rO F S cs x.2 :: rs) w := by
  refine h.turn _ ?_ fun _ hb => hb
  rintro ⟨c1, c2, S1, S2, he, k1, k2, o1, o2⟩
  have hl := E.len (E.read o1)
  rw [h1] at hl
  obtain ⟨u, rfl⟩ := List.length_eq_one_iff.1 hl
  simp at he
  obtain ⟨_, rfl⟩ := he
  exact F.omore o2 k2

theorem Held.unP {M : Nat → Prop} {w0 : World} {rs : List Res} {w : World} {α β : Type} {E : Enc α} {F : Enc β} {S : Nat → Prop} {v : Value} {cs : List Value} {x : α × β} (h1 : E.size = 1) (h : Held M w0 (rO (ePr E F) S (v :: cs) x :: rs) w) : ∃ S1 S2, Held M w0 (rO E S1 [v] x.1 :: rO F S2 cs x.2 :: rs) w := by
  obtain ⟨c1, c2, S1, S2, he, k1, k2, o1, o2⟩ := h.ok _ (List.mem_cons_self)
  have hl := E.len (E.read o1)
  rw [h1] at hl
  obtain ⟨u, rfl⟩ := List.length_eq_one_iff.1 hl
  simp at he
  obtain ⟨rfl, rfl⟩ := he
  have hs := List.pairwise_cons.1 h.sep
  refine ⟨S1, S2, h.chg, ?_, ?_, ?_⟩
  · intro r hr
    simp only [List.mem_cons] at hr
    rcases hr with rfl | rfl | hr
    · exact o1
    · exact o2
    · exact h.ok r (by simp [hr])
  · intro r hr b hb
    simp only [List.mem_cons] at hr
    rcases hr with rfl | rfl | hr
    · exact h.rng _ (List.mem_cons_self) b (k1 b hb).1
    · exact h.rng _ (List.mem_cons_self) b (k2 b hb)
    · exact h.rng r (by simp [hr]) b hb
  · refine List.pairwise_cons.2 ⟨fun r hr b hb hb' => ?_, List.pairwise_cons.2 ⟨fun r hr b hb hb' => hs.1 r hr b (k2 b hb) hb', hs.2⟩⟩
    rcases List.mem_cons.1 hr with rfl | hr
    · exact (k1 b hb).2 hb'
    · exact hs.1 r hr b (k1 b hb).1 hb'

/-- An owned slice with one element laid open: its cells es; what the element owns (T) is held apart. -/
def Foc {α : Type} (E : Enc α) (w : World) (S : Nat → Prop) (b off c : Nat) (xs : List α) (k : Nat) (es : List Value) : Prop :=
  k < xs.length ∧ xs.length ≤ c ∧ c ≤ maxLen ∧ S b ∧ es.length = E.size ∧ ∃ (t : TypeId) (cur : Array Value) (T : Nat → Nat → Prop), Blk w b t cur ∧ (∀ i m, T i m → S m ∧ m ≠ b) ∧ (∀ i j m, T i m → T j m → i = j) ∧
    (∀ j v, es[j]? = some v → cur[off + k * E.size + j]? = some v) ∧ ∀ (i : Nat) (x : α), i ≠ k → xs[i]? = some x → ∃ us, E.O w (T i) us x ∧ ∀ j v, us[j]? = some v → cur[off + i * E.size + j]? = some v

theorem Foc.keep {α : Type} {E : Enc α} {w w' : World} {S : Nat → Prop} {b off c : Nat} {xs : List α} {k : Nat} {es : List Value} (h : Foc E w S b off c xs k es) (hk : ∀ b, S b → w'.heap[b]? = w.heap[b]?) : Foc E w' S b off c xs k es := by
  obtain ⟨h1, h2, h3, h4, h5, t, cur, T, hB, hT, hd, hc, hr⟩ := h
  refine ⟨h1, h2, h3, h4, h5, t, cur, T, (hk b h4).trans hB, hT, hd, hc, fun i x hi hx => ?_⟩
  obtain ⟨us, q1, q2⟩ := hr i x hi hx
  exact ⟨us, E.okeep q1 fun m hm => hk m (hT i m hm).1, q2⟩

def rFoc {α : Type} (E : Enc α) (S : Nat → Prop) (b off c : Nat) (xs : List α) (k : Nat) (es : List Value) : Res := ⟨S, fun w => Foc E w S b off c xs k es, fun _ _ h hf => hf.keep h⟩

theorem Held.open {M : Nat → Prop} {w0 : World} {rs : List Res} {w : World} {α : Type} {E : Enc α} {S : Nat → Prop} {A : Option Addr} {c : Nat} {xs : List α} (h : Held M w0 (rSo E S A c xs :: rs) w) {k : Nat} (hk : k < xs.length) :
    ∃ b off es T, A = some ⟨b, off, none⟩ ∧ E.R w (Old w) es xs[k] ∧ (∀ m, T m → S m ∧ m ≠ b) ∧ Held M w0 (rFoc E (fun m => S m ∧ ¬ T m) b off c xs k es :: rO E T es xs[k] :: rs) w := by
  have hso := so_of_o (h.ok _ (List.mem_cons_self))
  have hrng := h.rng _ (List.mem_cons_self)
  obtain ⟨b, off, t, cur, T, hA, hb, hB, hT, hd, hc⟩ := hso.2.2 (by intro e; subst e; simp at hk)
  obtain ⟨es, h1, h2⟩ := hc k xs[k] (List.getElem?_eq_getElem hk)
  have hs := List.pairwise_cons.1 h.sep
  refine ⟨b, off, es, T k, hA, E.more (E.read h1) (fun m hm => (hrng m (hT k m hm).1).2), fun m hm => hT k m hm, h.chg, ?_, ?_, ?_⟩
  · intro r hr
    simp only [List.mem_cons] at hr
    rcases hr with rfl | rfl | hr
    · refine ⟨hk, hso.1, hso.2.1, ⟨hb, fun hm => (hT k b hm).2 rfl⟩, E.len (E.read h1), t, cur, fun i m => i ≠ k ∧ T i m, hB, fun i m hm => ⟨⟨(hT i m hm.2).1, fun hm' => hm.1 (hd i k m hm.2 hm')⟩, (hT i m hm.2).2⟩, fun i j m h3 h4 => hd i j m h3.2 h4.2, h2, fun i x hi hx => ?_⟩
      obtain ⟨us, q1, q2⟩ := hc i x hx
      exact ⟨us, E.omore q1 fun m hm => ⟨hi, hm⟩, q2⟩
    · exact h1
    · exact h.ok r (by simp [hr])
  · intro r hr m hm
    simp only [List.mem_cons] at hr
    rcases hr with rfl | rfl | hr
    · exact hrng m hm.1
    · exact hrng m (hT k m hm).1
    · exact h.rng r (by simp [hr]) m hm
  · refine List.pairwise_cons.2 ⟨fun r hr m hm hm' => ?_, List.pairwise_cons.2 ⟨fun r hr m hm hm' => hs.1 r hr m (hT k m hm).1 hm', hs.2⟩⟩
    rcases List.mem_cons.1 hr with rfl | hr
    · exact hm.2 hm'
    · exact hs.1 r hr m hm.1 hm'

theorem Held.shut {M : Nat → Prop} {w0 : World} {rs : List Res} {w : World} {α : Type} {E : Enc α} {S T : Nat → Prop} {b off c k : Nat} {xs : List α} {es : List Value} {y : α} (h : Held M w0 (rFoc E S b off c xs k es :: rO E T es y :: rs) w) : Held M w0 (rSo E (fun m => S m ∨ T m) (some ⟨b, off, none⟩) c (xs.set k y) :: rs) w := by
  refine h.join _ (fun hf ho hd => ?_) fun _ hb => hb
  obtain ⟨h1, h2, h3, h4, h5, t, cur, T', hB, hT, hd', hc, hr⟩ := hf
  refine oSl ⟨by rw [List.length_set]; exact h2, h3, fun _ => ⟨b, off, t, cur, fun i m => (i = k ∧ T m) ∨ (i ≠ k ∧ T' i m), rfl, .inl h4, hB, ?_, ?_, fun i x hx => ?_⟩⟩
  · rintro i m (⟨_, hm⟩ | ⟨_, hm⟩)
    · exact ⟨.inr hm, fun e => hd b h4 (e ▸ hm)⟩
    · exact ⟨.inl (hT i m hm).1, (hT i m hm).2⟩
  · rintro i j m (⟨hi, hm⟩ | ⟨hi, hm⟩) (⟨hj, hm'⟩ | ⟨hj, hm'⟩)
    · rw [hi, hj]
    · exact absurd hm (hd m (hT j m hm').1)
    · exact absurd hm' (hd m (hT i m hm).1)
    · exact hd' i j m hm hm'
  · by_cases e : i = k
    · subst e
      rw [List.getElem?_set_self h1] at hx
      simp at hx; subst hx
      exact ⟨es, E.omore ho fun m hm => .inl ⟨rfl, hm⟩, hc⟩
    · rw [List.getElem?_set_ne (fun h => e h.symm)] at hx
      obtain ⟨us, q1, q2⟩ := hr i x e hx
      exact ⟨us, E.omore q1 fun m hm => .inr ⟨e, hm⟩, q2⟩

theorem c_foc {M : Nat → Prop} {w0 : World} {rs : List Res} {α : Type} {E : Enc α} {S : Nat → Prop} {b off c k : Nat} {xs : List α} {es : List Value} {j : Nat} {v : Value} (i : Nat) (hi : rs[i]? = some (rFoc E S b off c xs k es)) (hv : es[j]? = some v) : ∀ w, Held M w0 rs w → w.cell? ⟨b, off + k * E.size + j, none⟩ = some v := fun w h => by
  obtain ⟨h1, h2, h3, h4, h5, t, cur, T, hB, hT, hd, hc, hr⟩ := h.get hi
  rw [hB.cell]; exact hc j v hv

/-- A store into a cell of the element that is laid open. -/
theorem st_storeF {P : Program} {ops : Array Oper} {Q : Exit → Act → World → Prop} {a : Act} {w : World} {K : Act → World → Prop} {n : Nat} {L : List (Nat × Value)} {M : Nat → Prop} {w0 : World} {rs : List Res} {α : Type} {E : Enc α} {t : TypeId} {z0 : Value} {x y : Operand} {S : Nat → Prop} {b off c k j o : Nat} {xs : List α} {es : List Value} {v : Value} {ty : TypeId} {pos : String} {af : Array Edge} {gd : Option (Nat × Bool)} (i : Nat) (hE : Env n L a) (hH : Held M w0 rs w) (ht : TV P t false [z0]) (hx : ev L x = some (.pointer (some ⟨b, o, none⟩))) (ho : o = off + k * E.size + j) (hy : ev L y = some v) (hv : v.oneCell' = true) (hi : rs[i]? = some (rFoc E S b off c xs k es)) (hj : Nat.blt j es.length = true) (hw : Region.wanted ⟨none, .store t x y, ty, pos, af, gd⟩ (yielded ops a.tmps) = true)
    (kk : ∀ w', Held M w0 (rs.set i (rFoc E S b off c xs k (es.set j v))) w' → K a w') : Stp P ops Q ⟨none, .store t x y, ty, pos, af, gd⟩ a w K := by
  have hj' : j < es.length := by simpa [Nat.blt_eq] using hj
  have hf : Foc E w S b off c xs k es := hH.get hi
  subst ho
  obtain ⟨h1, h2, h3, h4, h5, tt, cur, T, hB, hT, hd, hc, hr⟩ := hf
  have hcell : w.cell? ⟨b, off + k * E.size + j, none⟩ = some es[j] := by rw [hB.cell]; exact hc j _ (List.getElem?_eq_getElem hj')
  have hfz : w.frozen? ⟨b, off + k * E.size + j, none⟩ = false := hB.frozen _
  have hlt : off + k * E.size + j < cur.size := lt_of_get (hc j _ (List.getElem?_eq_getElem hj'))
  have hnew : Foc E (w.setCell ⟨b, off + k * E.size + j, none⟩ v) S b off c xs k (es.set j v) := by
    refine ⟨h1, h2, h3, h4, by simpa using h5, tt, _, T, hB.set _ v, hT, hd, fun j' u hu => ?_, fun i' y' hi' hx' => ?_⟩
    · by_cases e : j' = j
      · subst e
        rw [List.getElem?_set_self hj'] at hu
        rw [Array.getElem?_setIfInBounds_self_of_lt hlt]; exact hu
      · rw [List.getElem?_set_ne (fun h => e h.symm)] at hu
        rw [Array.getElem?_setIfInBounds_ne (by omega)]; exact hc j' u hu
    · obtain ⟨us, q1, q2⟩ := hr i' y' hi' hx'
      refine ⟨us, E.okeep q1 fun m hm => Below.heap_setCell _ _ _ _ (hT i' m hm).2, fun j' u hu => ?_⟩
      have hju := (List.getElem?_eq_some_iff.1 hu).1
      have hlu := E.len (E.read q1)
      rw [Array.getElem?_setIfInBounds_ne]
      · exact q2 j' u hu
      · rcases Nat.lt_or_gt_of_ne hi' with hlt' | hlt'
        · have : (i' + 1) * E.size ≤ k * E.size := Nat.mul_le_mul_right _ (by omega)
          rw [Nat.succ_mul] at this; omega
        · have : (k + 1) * E.size ≤ i' * E.size := Nat.mul_le_mul_right _ (by omega)
          rw [Nat.succ_mul] at this; omega
  have h6 : Held M w0 (rs.set i (rFoc E S b off c xs k (es.set j v))) (w.setCell ⟨b, off + k * E.size + j, none⟩ v) := hH.mut hi ((Chg.refl _ _).set (by exact h4) _) (rFoc E S b off c xs k (es.set j v)) hnew fun b hb => .inl hb
  refine st_skip hw ?_ rfl (kk _ h6)
  obtain ⟨ii, z, e1, _, e3, _⟩ := ht.info
  simp only [execOp, hE.ev hx, hE.ev hy, Instr.storeAt, Instr.sureAddr, storeVar, sizeOf, typeInfo, Sem.run_bind, Sem.run_pure, Result.andThen_ok, run_program, e1]
  have e3' : ii.size = 1 := e3
  have hs : (Go.store ⟨b, off + k * E.size + j, none⟩ v).run P w = .ok () (w.setCell ⟨b, off + k * E.size + j, none⟩ v) := by
    cases v <;> first | (simp [Value.oneCell'] at hv; done) | simp [Go.store, Sem.run, hcell, hfz]
  simp [one_cells hv, e3', storeCells, add_none, hs]

theorem Held.relen {M : Nat → Prop} {w0 : World} {rs : List Res} {w : World} {α : Type} {E : Enc α} {S : Nat → Prop} {A : Option Addr} {c n : Nat} {xs : List α} (h : Held M w0 (rSo E S A c xs :: rs) w) (hn : xs.length = n) : Held M w0 (rO (eSl E) S [.slice A n c] xs :: rs) w := hn ▸ h

theorem Held.lt {M : Nat → Prop} {w0 : World} {rs : List Res} {w : World} (h : Held M w0 rs w) {i : Nat} {r : Res} (hi : rs[i]? = some r) : ∀ b, r.S b → b < w.heap.size := fun b hb => (h.rng r (List.mem_of_getElem? hi) b hb).2

/-- What a callee made, beside what is held. -/
theorem Held.app {M : Nat → Prop} {w0 : World} {rs qs : List Res} {w w' : World} (h : Held M w0 rs w) (h' : Held Nob w qs w') : Held M w0 (qs ++ rs) w' where
  chg := (h.on h'.below).chg
  ok := by
    intro r hr
    rcases List.mem_append.1 hr with hr | hr
    · exact h'.ok r hr
    · exact (h.on h'.below).ok r hr
  rng := by
    intro r hr b hb
    rcases List.mem_append.1 hr with hr | hr
    · have h1 := h'.rng r hr b hb
      exact ⟨.inr (Nat.le_trans h.size (h1.1.resolve_left fun q => q.elim)), h1.2⟩
    · exact (h.on h'.below).rng r hr b hb
  sep := by
    refine List.pairwise_append.2 ⟨h'.sep, h.sep, fun r hr s hs b hb hb' => ?_⟩
    have h1 := (h'.rng r hr b hb).1.resolve_left fun q => q.elim
    have h2 := (h.rng s hs b hb').2
    omega

/-- Held only if p holds. -/
def rIf (p : Prop) (r : Res) : Res := ⟨r.S, fun w => p → r.φ w, fun w w' h hp hq => r.loc w w' h (hp hq)⟩

theorem Held.toIf {M : Nat → Prop} {w0 : World} {rs : List Res} {r : Res} {w : World} (h : Held M w0 (r :: rs) w) (p : Prop) : Held M w0 (rIf p r :: rs) w :=
  h.turn (rIf p r) (fun hr _ => hr) fun _ h => h

theorem Held.ofIf {M : Nat → Prop} {w0 : World} {rs : List Res} {r : Res} {w : World} {p : Prop} (h : Held M w0 (rIf p r :: rs) w) (hp : p) : Held M w0 (r :: rs) w :=
  h.turn r (fun hr => hr hp) fun _ h => h

theorem Held.noIf {M : Nat → Prop} {w0 : World} {rs : List Res} {w : World} {p : Prop} (h : Held M w0 rs w) {α : Type} {E : Enc α} {A : Option Addr} {c : Nat} {xs : List α} (r : Res) (hp : ¬ p) (hr : r = rSo E Nob A c xs := by rfl) : Held M w0 (rIf p r :: rs) w := by
  subst hr
  exact h.new (Below.refl _ _) (rIf p (rSo E Nob A c xs)) (fun hq => absurd hq hp) fun _ h => h.elim

theorem tv_2 : TV Try.prog 2 false [.int .i64 0] := by
  obtain ⟨i, h1, h2, h3⟩ := tv_parts (show (Try.prog.info? 2).map (fun i => (i.zero, i.size)) = some (some (.int .i64 0), 1) from by kernel_rfl)
  exact ⟨⟨_, Try.underlying2, rfl⟩, i, _, h1, h2, h3, rfl⟩

theorem tv_22 : TV Try.prog 22 false [.slice none 0 0] := by
  obtain ⟨i, h1, h2, h3⟩ := tv_parts (show (Try.prog.info? 22).map (fun i => (i.zero, i.size)) = some (some (.slice none 0 0), 1) from by kernel_rfl)
  exact ⟨⟨_, Try.underlying22, rfl⟩, i, _, h1, h2, h3, rfl⟩

theorem tv_24 : TV Try.prog 24 true [.int .i64 0, .int .i64 0, .int .i64 0, .slice none 0 0] := by
  obtain ⟨i, h1, h2, h3⟩ := tv_parts (show (Try.prog.info? 24).map (fun i => (i.zero, i.size)) = some (some (.agg #[.int .i64 0, .int .i64 0, .int .i64 0, .slice none 0 0]), 4) from by kernel_rfl)
  exact ⟨⟨_, Try.underlying24, rfl⟩, i, _, h1, h2, h3, rfl⟩

theorem tv_31 : TV Try.prog 31 false [.slice none 0 0] := by
  obtain ⟨i, h1, h2, h3⟩ := tv_parts (show (Try.prog.info? 31).map (fun i => (i.zero, i.size)) = some (some (.slice none 0 0), 1) from by kernel_rfl)
  exact ⟨⟨_, Try.underlying31, rfl⟩, i, _, h1, h2, h3, rfl⟩

theorem tv_95 : TV Try.prog 95 true [.int .i64 0, .slice none 0 0, .slice none 0 0, .slice none 0 0, .int .i64 0] := by
  obtain ⟨i, h1, h2, h3⟩ := tv_parts (show (Try.prog.info? 95).map (fun i => (i.zero, i.size)) = some (some (.agg #[.int .i64 0, .slice none 0 0, .slice none 0 0, .slice none 0 0, .int .i64 0]), 5) from by kernel_rfl)
  exact ⟨⟨_, Try.underlying95, rfl⟩, i, _, h1, h2, h3, rfl⟩

theorem ts_22 : TSl Try.prog 22 95 5 88 := by
  obtain ⟨i, h1, h2, h3, h4⟩ := ts_parts (show (Try.prog.info? 95).map (fun i => (i.zero, i.size, i.bytes)) = some (some (.agg #[.int .i64 0, .slice none 0 0, .slice none 0 0, .slice none 0 0, .int .i64 0]), 5, 88) from by kernel_rfl)
  exact ⟨Try.underlying22, i, _, h1, h2, h3, h4, rfl⟩

theorem fa_24_3 : ∀ b o w, (Instr.fieldAt 24 (.pointer (some ⟨b, o, none⟩)) 3).run Try.prog w = .ok (.pointer (some ⟨b, o + 3, none⟩)) w := by
  obtain ⟨i, z, h1, _, h3, _⟩ := tv_22.info
  exact fun b o w => fieldAt_of (f := 3) Try.underlying24 rfl h1 (by rw [h3]; decide) b o w

theorem tb_24 : TB Try.prog 24 [.int .i64 0, .int .i64 0, .int .i64 0, .slice none 0 0] := by
  refine ⟨tv_24, _, #[(0, 1), (1, 1), (2, 1), (3, 1)], Try.underlying24, fun w => ?_, fun i hi => ?_⟩
  · obtain ⟨i2, z2, h2, _, s2, _⟩ := tv_2.info; simp only [List.length_cons, List.length_nil] at s2; obtain ⟨i22, z22, h22, _, s22, _⟩ := tv_22.info; simp only [List.length_cons, List.length_nil] at s22
    simp [sizeOf, typeInfo, h2, s2, h22, s22]
  · simp only [List.length_cons, List.length_nil] at hi
    match i, hi with
    | 0, _ => rfl
    | 1, _ => rfl
    | 2, _ => rfl
    | 3, _ => rfl

theorem ts_31 : TSl Try.prog 31 2 1 8 := by
  obtain ⟨i, h1, h2, h3, h4⟩ := ts_parts (show (Try.prog.info? 2).map (fun i => (i.zero, i.size, i.bytes)) = some (some (.int .i64 0), 1, 8) from by kernel_rfl)
  exact ⟨Try.underlying31, i, _, h1, h2, h3, h4, rfl⟩

theorem fa_95_0 : ∀ b o w, (Instr.fieldAt 95 (.pointer (some ⟨b, o, none⟩)) 0).run Try.prog w = .ok (.pointer (some ⟨b, o + 0, none⟩)) w := by
  obtain ⟨i, z, h1, _, h3, _⟩ := tv_2.info
  exact fun b o w => fieldAt_of (f := 0) Try.underlying95 rfl h1 (by rw [h3]; decide) b o w

theorem fa_95_1 : ∀ b o w, (Instr.fieldAt 95 (.pointer (some ⟨b, o, none⟩)) 1).run Try.prog w = .ok (.pointer (some ⟨b, o + 1, none⟩)) w := by
  obtain ⟨i, z, h1, _, h3, _⟩ := tv_31.info
  exact fun b o w => fieldAt_of (f := 1) Try.underlying95 rfl h1 (by rw [h3]; decide) b o w

theorem fa_95_2 : ∀ b o w, (Instr.fieldAt 95 (.pointer (some ⟨b, o, none⟩)) 2).run Try.prog w = .ok (.pointer (some ⟨b, o + 2, none⟩)) w := by
  obtain ⟨i, z, h1, _, h3, _⟩ := tv_31.info
  exact fun b o w => fieldAt_of (f := 2) Try.underlying95 rfl h1 (by rw [h3]; decide) b o w

theorem fa_95_3 : ∀ b o w, (Instr.fieldAt 95 (.pointer (some ⟨b, o, none⟩)) 3).run Try.prog w = .ok (.pointer (some ⟨b, o + 3, none⟩)) w := by
  obtain ⟨i, z, h1, _, h3, _⟩ := tv_31.info
  exact fun b o w => fieldAt_of (f := 3) Try.underlying95 rfl h1 (by rw [h3]; decide) b o w

theorem fa_95_4 : ∀ b o w, (Instr.fieldAt 95 (.pointer (some ⟨b, o, none⟩)) 4).run Try.prog w = .ok (.pointer (some ⟨b, o + 4, none⟩)) w := by
  obtain ⟨i, z, h1, _, h3, _⟩ := tv_2.info
  exact fun b o w => fieldAt_of (f := 4) Try.underlying95 rfl h1 (by rw [h3]; decide) b o w

theorem tb_95 : TB Try.prog 95 [.int .i64 0, .slice none 0 0, .slice none 0 0, .slice none 0 0, .int .i64 0] := by
  refine ⟨tv_95, _, #[(0, 1), (1, 1), (2, 1), (3, 1), (4, 1)], Try.underlying95, fun w => ?_, fun i hi => ?_⟩
  · obtain ⟨i2, z2, h2, _, s2, _⟩ := tv_2.info; simp only [List.length_cons, List.length_nil] at s2; obtain ⟨i31, z31, h31, _, s31, _⟩ := tv_31.info; simp only [List.length_cons, List.length_nil] at s31
    simp [sizeOf, typeInfo, h2, s2, h31, s31]
  · simp only [List.length_cons, List.length_nil] at hi
    match i, hi with
    | 0, _ => rfl
    | 1, _ => rfl
    | 2, _ => rfl
    | 3, _ => rfl
    | 4, _ => rfl

theorem en_15 : ∀ args w, (callFunc 15 args).run Try.prog w = .ok (.enter 15 args) w := enters_of Try.func15 (by kernel_rfl) rfl

theorem en_16 : ∀ args w, (callFunc 16 args).run Try.prog w = .ok (.enter 16 args) w := enters_of Try.func16 (by kernel_rfl) rfl

theorem en_17 : ∀ args w, (callFunc 17 args).run Try.prog w = .ok (.enter 17 args) w := enters_of Try.func17 (by kernel_rfl) rfl

theorem en_18 : ∀ args w, (callFunc 18 args).run Try.prog w = .ok (.enter 18 args) w := enters_of Try.func18 (by kernel_rfl) rfl

theorem en_19 : ∀ args w, (callFunc 19 args).run Try.prog w = .ok (.enter 19 args) w := enters_of Try.func19 (by kernel_rfl) rfl

theorem en_34 : ∀ args w, (callFunc 34 args).run Try.prog w = .ok (.enter 34 args) w := enters_of Try.func34 (by kernel_rfl) rfl

theorem en_46 : ∀ args w, (callFunc 46 args).run Try.prog w = .ok (.enter 46 args) w := enters_of Try.func46 (by kernel_rfl) rfl

theorem en_67 : ∀ args w, (callFunc 67 args).run Try.prog w = .ok (.enter 67 args) w := enters_of Try.func67 (by kernel_rfl) rfl

theorem en_68 : ∀ args w, (callFunc 68 args).run Try.prog w = .ok (.enter 68 args) w := enters_of Try.func68 (by kernel_rfl) rfl

theorem en_69 : ∀ args w, (callFunc 69 args).run Try.prog w = .ok (.enter 69 args) w := enters_of Try.func69 (by kernel_rfl) rfl

theorem en_70 : ∀ args w, (callFunc 70 args).run Try.prog w = .ok (.enter 70 args) w := enters_of Try.func70 (by kernel_rfl) rfl

theorem en_72 : ∀ args w, (callFunc 72 args).run Try.prog w = .ok (.enter 72 args) w := enters_of Try.func72 (by kernel_rfl) rfl

theorem en_73 : ∀ args w, (callFunc 73 args).run Try.prog w = .ok (.enter 73 args) w := enters_of Try.func73 (by kernel_rfl) rfl

theorem en_141 : ∀ args w, (callFunc 141 args).run Try.prog w = .ok (.enter 141 args) w := enters_of Try.func141 (by kernel_rfl) rfl

theorem hmix : Try.prog.follows .mixedOrders = true := by kernel_rfl

theorem held_L_e (A : Option Addr) (c : Nat) (ys : List Int) (k : Int) (z : List Int) (w : World) (h : Sl eInt w (Old w) A c ys) (sz : ys = mk_L z k) (hk : 0 ≤ k) (hk' : k + (ct_L z : Int) ≤ 1000000000000) :
    Calls Try.prog 46 #[.slice A ys.length c, .int .i64 k] w fun e w' => e = .returned (.int .i64 (k + (ct_L z : Int))) ∧ Below w.heap.size w w' := by
  subst sz
  have := held_L_c A c z k w h hk hk'
  rwa [show z.length = (mk_L z k).length from (mkL_len _ _ _ _).symm] at this

theorem cntL_bound {α : Type} {c : α → Nat} {n : Nat} : ∀ {xs : List α}, (∀ x ∈ xs, c x ≤ n) → cntL c xs ≤ n * xs.length
  | [], _ => by simp [cntL]
  | x :: xs, h => by
    have h1 := cntL_bound (c := c) (n := n) (xs := xs) fun y hy => h y (by simp [hy])
    have h2 := h x (by simp)
    unfold cntL at h1 ⊢
    rw [List.map_cons, List.sum_cons, List.length_cons, Nat.mul_succ]
    omega

def mkR_SMultiRule (xs : List tMultiRule) (k : Int) : Int × List tMultiRule := (k + (ct_SMultiRule xs : Int), mk_SMultiRule xs k)

set_option maxRecDepth 100000 in
set_option maxHeartbeats 4000000 in
theorem mark_SMultiRule_h (M : Nat → Prop) (A0 : Option Addr) (c0 : Nat) (a0 : (List tMultiRule)) (S0 : Nat → Prop) (a1 : Int) (w : World) (HM : Held M w [rSo eMultiRule S0 A0 c0 a0] w) (s0 : 0 ≤ a1) (s1 : a1 + (ct_SMultiRule a0 : Int) ≤ 1000000000000) :
    Calls Try.prog 72 #[.slice A0 a0.length c0, .int .i64 a1] w fun e w' => ∃ (S0' : Nat → Prop), e = .returned (.int .i64 (mkR_SMultiRule a0 a1).1) ∧ Held M w [rSo eMultiRule S0' A0 c0 (mkR_SMultiRule a0 a1).2] w' := by
  have HH1 := HM
  have l0 := (HH1.sl (i := 0) rfl).len
  refine enter (n := 48) Try.func72 rfl rfl rfl fun a_2 HE3 => ?_
  refine wp_seq ?_
  refine rg ?_
  refine pl_x HE3 HH1 (wt0 rfl) (x_assign rfl) rfl rfl fun a_4 HE5 => ?_
  refine wpList_nil ?_
  clear a_2 HE3
  refine nrm ?_
  refine wp_seq ?_
  refine wp_seq ?_
  refine rg ?_
  refine pl_x HE5 HH1 (wt0 rfl) (x_assign rfl) rfl rfl fun a_6 HE7 => ?_
  refine wpList_nil ?_
  clear a_4 HE5
  refine nrm ?_
  refine wp_block ?_
  refine lp (fun m a w' => ∃ (i : Nat) (S_0 : Nat → Prop), m = a0.length - i ∧ Env 48 [(1, .int .i64 (a1 + (cntL ct_MultiRule (a0.take i) : Int))), (5, .int .i64 (i : Int)), (0, .slice A0 (a0.length) c0)] a ∧ Held M w [rSo eMultiRule S_0 A0 c0 (mkTo mk_MultiRule ct_MultiRule a0 a1 i)] w' ∧ (i ≤ a0.length)) (a0.length - (0)) ?_ ?_
  · have E21 : mkTo mk_MultiRule ct_MultiRule a0 a1 0 = a0 := by
      exact mkTo_zero _ _ _ _
    exact ⟨0, S0, rfl, HE7.sub ⟨(lkI rfl (by simp [cntL])), (lkI rfl (by first | rfl | omega | (simp []; done))), rfl, trivial⟩, ((HH1.sel [0] (by decide) rfl).to (by first | rfl | (rw [E21]; done) | (rw [E21]; rfl) | (simp only [E21]; done) | (simp only [E21]; rfl))), (by first | omega | assumption | (simp; done) | simp_all)⟩
  · rintro m a_8 w' ⟨i, S_0, rfl, HE9, HH10, p22_0⟩
    have hl0 : (mkTo mk_MultiRule ct_MultiRule a0 a1 i).length = a0.length := mkTo_len _ _ _ _ _
    refine wp_seq ?_
    refine wp_seq ?_
    refine rg ?_
    refine pl_x HE9 HH10 (wt0 rfl) (x_move rfl) rfl rfl fun a_11 HE12 => ?_
    refine pl_x HE12 HH10 (wt0 rfl) (x_move rfl) rfl rfl fun a_13 HE14 => ?_
    refine pl_x HE14 HH10 (wt0 rfl) (x_len Try.underlying22 rfl) rfl rfl fun a_15 HE16 => ?_
    refine pl_x HE16 HH10 (wt0 rfl) (x_lss rfl rfl) rfl rfl fun a_17 HE18 => ?_
    refine wpList_nil ?_
    clear a_6 HE7 HH1 a_8 HE9 a_11 HE12 a_13 HE14 a_15 HE16
    refine nrm ?_
    refine cnd_d HE18 rfl (fun hc23 => ?_) (fun hc23 => ?_)
    · refine wp_skip ?_
      refine nrm ?_
      refine wp_seq ?_
      refine wp_block ?_
      refine wp_seq ?_
      refine rg ?_
      refine pl_x HE18 HH10 (wt0 rfl) (x_move rfl) rfl rfl fun a_19 HE20 => ?_
      refine pl_x HE20 HH10 (wt0 rfl) (x_move rfl) rfl rfl fun a_21 HE22 => ?_
      refine pl_x HE22 HH10 (wt0 rfl) (x_move rfl) rfl rfl fun a_23 HE24 => ?_
      have ke24 : i < List.length (mkTo mk_MultiRule ct_MultiRule a0 a1 i) := by first | omega | (rw [mkTo_len]; omega)
      have ne24 : i < a0.length := by omega
      obtain ⟨be24, fe24, ese24, Te24, rfl, Re24, Ze24, HH25⟩ := HH10.open ke24
      obtain ⟨e24, xe24⟩ : ∃ x, x = (mkTo mk_MultiRule ct_MultiRule a0 a1 i)[i] := ⟨_, rfl⟩
      rw [← xe24] at Re24
      rw [← xe24] at HH25
      obtain ⟨Ae24_1, ce24_1, Ae24_2, ce24_2, Ae24_3, ce24_3, rfl, ge24_0, ge24_1, ge24_2, ge24_3, ge24_4⟩ := shape_MultiRule Re24
      clear Re24
      have je24_0 := ge24_0; unfold I64 at je24_0
      have je24_4 := ge24_4; unfold I64 at je24_4
      have hxe24 : e24 = a0[i] := by have hq := mkTo_get mk_MultiRule ct_MultiRule a0 a1 i (by omega); rw [List.getElem?_eq_getElem (by rw [mkTo_len]; omega)] at hq; rw [xe24]; exact Option.some.inj hq
      have hc1 := cntL_take ct_MultiRule a0 i (by omega)
      have hc2 : cntL ct_MultiRule (a0.take (i + 1)) ≤ ct_SMultiRule a0 := cntL_le ct_MultiRule a0 (i + 1)
      rw [← hxe24] at hc1
      have hc3 : ct_MultiRule e24 = 1 + ct_L e24.2.1 + ct_L e24.2.2.1 + ct_L e24.2.2.2.1 + 1 := rfl
      have HH26 := HH25.sel [1, 0] (by decide) rfl
      have HH27 := HH26.unF rfl
      obtain ⟨S25, S26, HH28⟩ := HH27.unP rfl
      have HH29 := HH28.sel [1, 0, 2] (by decide) rfl
      obtain ⟨S27, S28, HH30⟩ := HH29.unP rfl
      have HH31 := HH30.sel [1, 0, 2, 3] (by decide) rfl
      obtain ⟨S29, S30, HH32⟩ := HH31.unP rfl
      have HH33 := HH32.sel [1, 0, 2, 3, 4] (by decide) rfl
      have HH34 := HH33.sel [1, 2, 3, 4] (by decide) rfl
      refine pl_x HE24 HH34 (wt0 rfl) (x_indexAddr ts_22 rfl rfl rfl rfl ne24) rfl rfl fun a_35 HE36 => ?_
      refine pl_x HE36 HH34 (wt0 rfl) (x_fieldAddr fa_95_0 rfl) rfl rfl fun a_37 HE38 => ?_
      refine pl fun K_39 hK40 => ?_
      refine st_storeF (j := 0) 3 HE38 HH34 tv_2 rfl rfl rfl rfl rfl rfl (wt0 rfl) fun w' HH41 => hK40 _ _ ?_
      refine wpList_nil ?_
      clear a_17 HE18 a_19 HE20 a_21 HE22 HH10 HH25 HH26 HH27 HH28 HH29 HH30 HH31 HH32 HH33 a_23 HE24 a_35 HE36 HH34 hK40 K_39
      refine nrm ?_
      refine wp_seq ?_
      refine rg ?_
      refine pl_x HE38 HH41 (wt0 rfl) (x_move rfl) rfl rfl fun a_42 HE43 => ?_
      refine pl_x HE43 HH41 (wt0 rfl) (x_add rfl rfl (by exact ⟨by omega, by omega⟩)) rfl rfl fun a_44 HE45 => ?_
      refine pl_x HE45 HH41 (wt0 rfl) (x_assign rfl) rfl rfl fun a_46 HE47 => ?_
      refine wpList_nil ?_
      clear a_37 HE38 a_42 HE43 a_44 HE45
      refine nrm ?_
      refine wp_seq ?_
      refine rg ?_
      refine pl_x HE47 HH41 (wt0 rfl) (x_move rfl) rfl rfl fun a_48 HE49 => ?_
      refine pl_x HE49 HH41 (wt0 rfl) (x_move rfl) rfl rfl fun a_50 HE51 => ?_
      refine pl_x HE51 HH41 (wt0 rfl) (x_indexAddr ts_22 rfl rfl rfl rfl ne24) rfl rfl fun a_52 HE53 => ?_
      refine pl_x HE53 HH41 (wt0 rfl) (x_fieldAddr fa_95_1 rfl) rfl rfl fun a_54 HE55 => ?_
      refine pl_x HE55 HH41 (wt0 rfl) (x_load1 tv_31 rfl (c_foc (E := eMultiRule) (off := fe24) (k := i) (j := 1) 3 rfl rfl)) rfl rfl fun a_56 HE57 => ?_
      refine pl_x HE57 HH41 (wt0 rfl) (x_move rfl) rfl rfl fun a_58 HE59 => ?_
      refine pl fun K_60 hK61 => ?_
      refine st_call HE59 (wt0 rfl) rfl rfl rfl en_34 rfl rfl (mark_L_c _ _ e24.2.1 ((a1 + (cntL ct_MultiRule (a0.take i) : Int)) + 1) _ _ (so_of_o (HH41.get (i := 2) rfl)) (HH41.lt (i := 2) rfl) (by omega) (by omega)) fun e w' hr => ?_
      obtain ⟨rfl, hsr31, hcr31⟩ := hr
      have HH62 := HH41.mut (i := 2) rfl hcr31 (rSo eInt S25 Ae24_1 ce24_1 (mk_L e24.2.1 ((a1 + (cntL ct_MultiRule (a0.take i) : Int)) + 1))) (oSl hsr31) (fun b hb => .inl hb)
      clear hsr31 hcr31
      refine ⟨_, rfl, fun a_63 HE64 => hK61 _ _ ?_⟩
      refine pl_x HE64 HH62 (wt0 rfl) (x_assign rfl) rfl rfl fun a_65 HE66 => ?_
      refine wpList_nil ?_
      clear a_46 HE47 a_48 HE49 a_50 HE51 a_52 HE53 a_54 HE55 a_56 HE57 HH41 a_58 HE59 a_63 HE64 hK61 K_60
      refine nrm ?_
      refine wp_seq ?_
      refine rg ?_
      refine pl_x HE66 HH62 (wt0 rfl) (x_move rfl) rfl rfl fun a_67 HE68 => ?_
      refine pl_x HE68 HH62 (wt0 rfl) (x_move rfl) rfl rfl fun a_69 HE70 => ?_
      refine pl_x HE70 HH62 (wt0 rfl) (x_indexAddr ts_22 rfl rfl rfl rfl ne24) rfl rfl fun a_71 HE72 => ?_
      refine pl_x HE72 HH62 (wt0 rfl) (x_fieldAddr fa_95_2 rfl) rfl rfl fun a_73 HE74 => ?_
      refine pl_x HE74 HH62 (wt0 rfl) (x_load1 tv_31 rfl (c_foc (E := eMultiRule) (off := fe24) (k := i) (j := 2) 3 rfl rfl)) rfl rfl fun a_75 HE76 => ?_
      refine pl_x HE76 HH62 (wt0 rfl) (x_move rfl) rfl rfl fun a_77 HE78 => ?_
      refine pl fun K_79 hK80 => ?_
      refine st_call HE78 (wt0 rfl) rfl rfl rfl en_34 rfl rfl (mark_L_c _ _ e24.2.2.1 (((a1 + (cntL ct_MultiRule (a0.take i) : Int)) + 1) + (ct_L e24.2.1 : Int)) _ _ (so_of_o (HH62.get (i := 1) rfl)) (HH62.lt (i := 1) rfl) (by omega) (by omega)) fun e w' hr => ?_
      obtain ⟨rfl, hsr32, hcr32⟩ := hr
      have HH81 := HH62.mut (i := 1) rfl hcr32 (rSo eInt S27 Ae24_2 ce24_2 (mk_L e24.2.2.1 (((a1 + (cntL ct_MultiRule (a0.take i) : Int)) + 1) + (ct_L e24.2.1 : Int)))) (oSl hsr32) (fun b hb => .inl hb)
      clear hsr32 hcr32
      refine ⟨_, rfl, fun a_82 HE83 => hK80 _ _ ?_⟩
      refine pl_x HE83 HH81 (wt0 rfl) (x_assign rfl) rfl rfl fun a_84 HE85 => ?_
      refine wpList_nil ?_
      clear a_65 HE66 a_67 HE68 a_69 HE70 a_71 HE72 a_73 HE74 a_75 HE76 HH62 a_77 HE78 a_82 HE83 hK80 K_79
      refine nrm ?_
      refine wp_seq ?_
      refine rg ?_
      refine pl_x HE85 HH81 (wt0 rfl) (x_move rfl) rfl rfl fun a_86 HE87 => ?_
      refine pl_x HE87 HH81 (wt0 rfl) (x_move rfl) rfl rfl fun a_88 HE89 => ?_
      refine pl_x HE89 HH81 (wt0 rfl) (x_indexAddr ts_22 rfl rfl rfl rfl ne24) rfl rfl fun a_90 HE91 => ?_
      refine pl_x HE91 HH81 (wt0 rfl) (x_fieldAddr fa_95_3 rfl) rfl rfl fun a_92 HE93 => ?_
      refine pl_x HE93 HH81 (wt0 rfl) (x_load1 tv_31 rfl (c_foc (E := eMultiRule) (off := fe24) (k := i) (j := 3) 3 rfl rfl)) rfl rfl fun a_94 HE95 => ?_
      refine pl_x HE95 HH81 (wt0 rfl) (x_move rfl) rfl rfl fun a_96 HE97 => ?_
      refine pl fun K_98 hK99 => ?_
      refine st_call HE97 (wt0 rfl) rfl rfl rfl en_34 rfl rfl (mark_L_c _ _ e24.2.2.2.1 ((((a1 + (cntL ct_MultiRule (a0.take i) : Int)) + 1) + (ct_L e24.2.1 : Int)) + (ct_L e24.2.2.1 : Int)) _ _ (so_of_o (HH81.get (i := 0) rfl)) (HH81.lt (i := 0) rfl) (by omega) (by omega)) fun e w' hr => ?_
      obtain ⟨rfl, hsr33, hcr33⟩ := hr
      have HH100 := HH81.mut (i := 0) rfl hcr33 (rSo eInt S29 Ae24_3 ce24_3 (mk_L e24.2.2.2.1 ((((a1 + (cntL ct_MultiRule (a0.take i) : Int)) + 1) + (ct_L e24.2.1 : Int)) + (ct_L e24.2.2.1 : Int)))) (oSl hsr33) (fun b hb => .inl hb)
      clear hsr33 hcr33
      refine ⟨_, rfl, fun a_101 HE102 => hK99 _ _ ?_⟩
      refine pl_x HE102 HH100 (wt0 rfl) (x_assign rfl) rfl rfl fun a_103 HE104 => ?_
      refine wpList_nil ?_
      clear a_84 HE85 a_86 HE87 a_88 HE89 a_90 HE91 a_92 HE93 a_94 HE95 HH81 a_96 HE97 a_101 HE102 hK99 K_98
      refine nrm ?_
      refine wp_seq ?_
      refine rg ?_
      refine pl_x HE104 HH100 (wt0 rfl) (x_move rfl) rfl rfl fun a_105 HE106 => ?_
      refine pl_x HE106 HH100 (wt0 rfl) (x_move rfl) rfl rfl fun a_107 HE108 => ?_
      refine pl_x HE108 HH100 (wt0 rfl) (x_move rfl) rfl rfl fun a_109 HE110 => ?_
      refine pl_x HE110 HH100 (wt0 rfl) (x_indexAddr ts_22 rfl rfl rfl rfl ne24) rfl rfl fun a_111 HE112 => ?_
      refine pl_x HE112 HH100 (wt0 rfl) (x_fieldAddr fa_95_4 rfl) rfl rfl fun a_113 HE114 => ?_
      refine pl fun K_115 hK116 => ?_
      refine st_storeF (j := 4) 3 HE114 HH100 tv_2 rfl rfl rfl rfl rfl rfl (wt0 rfl) fun w' HH117 => hK116 _ _ ?_
      refine wpList_nil ?_
      clear a_103 HE104 a_105 HE106 a_107 HE108 a_109 HE110 a_111 HE112 HH100 hK116 K_115
      refine nrm ?_
      refine rg ?_
      refine pl_x HE114 HH117 (wt0 rfl) (x_move rfl) rfl rfl fun a_118 HE119 => ?_
      refine pl_x HE119 HH117 (wt0 rfl) (x_add rfl rfl (by exact ⟨by omega, by omega⟩)) rfl rfl fun a_120 HE121 => ?_
      refine pl_x HE121 HH117 (wt0 rfl) (x_assign rfl) rfl rfl fun a_122 HE123 => ?_
      refine wpList_nil ?_
      clear a_113 HE114 a_118 HE119 a_120 HE121
      refine blk_n ?_
      refine nrm ?_
      refine rg ?_
      refine pl_x HE123 HH117 (wt0 rfl) (x_move rfl) rfl rfl fun a_124 HE125 => ?_
      refine pl_x HE125 HH117 (wt0 rfl) (x_add rfl rfl (by exact ⟨by omega, by omega⟩)) rfl rfl fun a_126 HE127 => ?_
      refine pl_x HE127 HH117 (wt0 rfl) (x_assign rfl) rfl rfl fun a_128 HE129 => ?_
      refine wpList_nil ?_
      clear a_122 HE123 a_124 HE125 a_126 HE127
      have HH130 := HH117.sel [2, 0, 1, 3] (by decide) rfl
      have HH131 := HH130.relen (n := e24.2.1.length) (by first | exact mkL_len _ _ _ _ | (simp; done) | (simp; omega))
      have HH132 := HH131.sel [2, 0, 1, 3] (by decide) rfl
      have HH133 := HH132.relen (n := e24.2.2.1.length) (by first | exact mkL_len _ _ _ _ | (simp; done) | (simp; omega))
      have HH134 := HH133.sel [2, 0, 1, 3] (by decide) rfl
      have HH135 := HH134.relen (n := e24.2.2.2.1.length) (by first | exact mkL_len _ _ _ _ | (simp; done) | (simp; omega))
      have HH136 := HH135.sel [2, 1, 0, 3] (by decide) rfl
      have HH137 := HH136.sel [2, 0, 1, 3] (by decide) rfl
      have HH138 := HH137.pairB (F := eInt) (c2 := [.int .i64 ((((((a1 + (cntL ct_MultiRule (a0.take i) : Int)) + 1) + (ct_L e24.2.1 : Int)) + (ct_L e24.2.2.1 : Int)) + (ct_L e24.2.2.2.1 : Int)))]) (y := (((((a1 + (cntL ct_MultiRule (a0.take i) : Int)) + 1) + (ct_L e24.2.1 : Int)) + (ct_L e24.2.2.1 : Int)) + (ct_L e24.2.2.2.1 : Int))) (oI (by exact ⟨by omega, by omega⟩))
      have HH139 := HH138.sel [2, 0, 1, 3] (by decide) rfl
      have HH140 := HH139.pair
      have HH141 := HH140.sel [1, 0, 2] (by decide) rfl
      have HH142 := HH141.pair
      have HH143 := HH142.pairF (E := eInt) (c1 := [.int .i64 ((a1 + (cntL ct_MultiRule (a0.take i) : Int)))]) (x := (a1 + (cntL ct_MultiRule (a0.take i) : Int))) (oI (by exact ⟨by omega, by omega⟩))
      obtain ⟨S34, HH144⟩ : ∃ S, Held M w (rO eMultiRule S [.int .i64 ((a1 + (cntL ct_MultiRule (a0.take i) : Int))), .slice Ae24_1 (e24.2.1.length) ce24_1, .slice Ae24_2 (e24.2.2.1.length) ce24_2, .slice Ae24_3 (e24.2.2.2.1.length) ce24_3, .int .i64 ((((((a1 + (cntL ct_MultiRule (a0.take i) : Int)) + 1) + (ct_L e24.2.1 : Int)) + (ct_L e24.2.2.1 : Int)) + (ct_L e24.2.2.2.1 : Int)))] ((a1 + (cntL ct_MultiRule (a0.take i) : Int)), (mk_L e24.2.1 ((a1 + (cntL ct_MultiRule (a0.take i) : Int)) + 1)), (mk_L e24.2.2.1 (((a1 + (cntL ct_MultiRule (a0.take i) : Int)) + 1) + (ct_L e24.2.1 : Int))), (mk_L e24.2.2.2.1 ((((a1 + (cntL ct_MultiRule (a0.take i) : Int)) + 1) + (ct_L e24.2.1 : Int)) + (ct_L e24.2.2.1 : Int))), (((((a1 + (cntL ct_MultiRule (a0.take i) : Int)) + 1) + (ct_L e24.2.1 : Int)) + (ct_L e24.2.2.1 : Int)) + (ct_L e24.2.2.2.1 : Int))) :: _) _ := ⟨_, HH143⟩
      have HH145 := HH144.sel [1, 0] (by decide) rfl
      have HH146 := HH145.shut
      obtain ⟨S35, HH147⟩ : ∃ S, Held M w (rSo eMultiRule S (some ⟨be24, fe24, none⟩) c0 ((mkTo mk_MultiRule ct_MultiRule a0 a1 i).set i ((a1 + (cntL ct_MultiRule (a0.take i) : Int)), (mk_L e24.2.1 ((a1 + (cntL ct_MultiRule (a0.take i) : Int)) + 1)), (mk_L e24.2.2.1 (((a1 + (cntL ct_MultiRule (a0.take i) : Int)) + 1) + (ct_L e24.2.1 : Int))), (mk_L e24.2.2.2.1 ((((a1 + (cntL ct_MultiRule (a0.take i) : Int)) + 1) + (ct_L e24.2.1 : Int)) + (ct_L e24.2.2.1 : Int))), (((((a1 + (cntL ct_MultiRule (a0.take i) : Int)) + 1) + (ct_L e24.2.1 : Int)) + (ct_L e24.2.2.1 : Int)) + (ct_L e24.2.2.2.1 : Int)))) :: _) _ := ⟨_, HH146⟩
      have E36 : mkTo mk_MultiRule ct_MultiRule a0 a1 (i + 1) = ((mkTo mk_MultiRule ct_MultiRule a0 a1 i).set i ((a1 + (cntL ct_MultiRule (a0.take i) : Int)), (mk_L e24.2.1 ((a1 + (cntL ct_MultiRule (a0.take i) : Int)) + 1)), (mk_L e24.2.2.1 (((a1 + (cntL ct_MultiRule (a0.take i) : Int)) + 1) + (ct_L e24.2.1 : Int))), (mk_L e24.2.2.2.1 ((((a1 + (cntL ct_MultiRule (a0.take i) : Int)) + 1) + (ct_L e24.2.1 : Int)) + (ct_L e24.2.2.1 : Int))), (((((a1 + (cntL ct_MultiRule (a0.take i) : Int)) + 1) + (ct_L e24.2.1 : Int)) + (ct_L e24.2.2.1 : Int)) + (ct_L e24.2.2.2.1 : Int)))) := by
        rw [← mkTo_step mk_MultiRule ct_MultiRule a0 a1 i (by omega), ← hxe24]; rfl
      exact nrm ⟨a0.length - (i + 1), (by omega), i + 1, S35, rfl, HE129.sub ⟨(lkI rfl (by omega)), (lkI rfl (by first | rfl | omega | (simp [p22_0, hc23, xe24]; done))), rfl, trivial⟩, ((HH147.sel [0] (by decide) rfl).to (by first | rfl | (rw [E36]; done) | (rw [E36]; rfl) | (simp only [E36]; done) | (simp only [E36]; rfl))), (by first | omega | assumption | (simp; done) | simp_all)⟩
    · refine wp_exit ?_
      refine (thn_exit (thn_exit (blk_hit ?_)))
      refine nrm ?_
      refine wp_seq ?_
      refine rg ?_
      refine pl_x HE18 HH10 (wt0 rfl) (x_move rfl) rfl rfl fun a_148 HE149 => ?_
      refine pl_x HE149 HH10 (wt0 rfl) (x_assign rfl) rfl rfl fun a_150 HE151 => ?_
      refine wpList_nil ?_
      clear a_17 HE18 a_148 HE149
      refine nrm ?_
      refine wp_ret ?_
      refine ret1 HE151 rfl (rv_tmp rfl) ?_
      have hF : (mkR_SMultiRule a0 a1) = ((a1 + (cntL ct_MultiRule (a0.take i) : Int)), mkTo mk_MultiRule ct_MultiRule a0 a1 i) := by
        unfold mkR_SMultiRule ct_SMultiRule mk_SMultiRule; rw [show i = a0.length from by omega, mkTo_end, List.take_length]
      exact ⟨_, by rw [hF] <;> rfl, by rw [hF]; exact HH10.sel [0] (by decide) rfl⟩

set_option maxRecDepth 100000 in
set_option maxHeartbeats 4000000 in
theorem held_SMultiRule_e (A0 : Option Addr) (c0 : Nat) (a0 : (List tMultiRule)) (a1 : Int) (z : List tMultiRule) (w : World) (h0 : Sl eMultiRule w (Old w) A0 c0 a0) (sz : a0 = mk_SMultiRule z a1) (s0 : 0 ≤ a1) (s1 : a1 + (ct_SMultiRule z : Int) ≤ 1000000000000) :
    Calls Try.prog 73 #[.slice A0 a0.length c0, .int .i64 a1] w fun e w' => e = .returned (.int .i64 (a1 + (ct_SMultiRule z : Int))) ∧ Below w.heap.size w w' := by
  have l0 := h0.len
  have hz0 : a0.length = z.length := by rw [sz]; exact mkL_len _ _ _ _
  have HH1 := Held.start Nob w
  refine enter (n := 58) Try.func73 rfl rfl rfl fun a_2 HE3 => ?_
  refine wp_seq ?_
  refine rg ?_
  refine pl_x HE3 HH1 (wt0 rfl) (x_assign rfl) rfl rfl fun a_4 HE5 => ?_
  refine wpList_nil ?_
  clear a_2 HE3
  refine nrm ?_
  refine wp_seq ?_
  refine wp_seq ?_
  refine rg ?_
  refine pl_x HE5 HH1 (wt0 rfl) (x_assign rfl) rfl rfl fun a_6 HE7 => ?_
  refine wpList_nil ?_
  clear a_4 HE5
  refine nrm ?_
  refine wp_block ?_
  refine lp (fun m a w' => ∃ (i : Nat), m = a0.length - i ∧ Env 58 [(1, .int .i64 (a1 + (cntL ct_MultiRule (z.take i) : Int))), (5, .int .i64 (i : Int)), (0, .slice A0 (a0.length) c0)] a ∧ Held Nob w [] w' ∧ (i ≤ a0.length)) (a0.length - (0)) ?_ ?_
  · exact ⟨0, rfl, HE7.sub ⟨(lkI rfl (by simp [cntL])), (lkI rfl (by first | rfl | omega | (simp []; done))), rfl, trivial⟩, (HH1.sel [] (by decide) rfl), (by first | omega | assumption | (simp; done) | simp_all)⟩
  · rintro m a_8 w' ⟨i, rfl, HE9, HH10, p21_0⟩
    refine wp_seq ?_
    refine wp_seq ?_
    refine rg ?_
    refine pl_x HE9 HH10 (wt0 rfl) (x_move rfl) rfl rfl fun a_11 HE12 => ?_
    refine pl_x HE12 HH10 (wt0 rfl) (x_move rfl) rfl rfl fun a_13 HE14 => ?_
    refine pl_x HE14 HH10 (wt0 rfl) (x_len Try.underlying22 rfl) rfl rfl fun a_15 HE16 => ?_
    refine pl_x HE16 HH10 (wt0 rfl) (x_lss rfl rfl) rfl rfl fun a_17 HE18 => ?_
    refine wpList_nil ?_
    clear a_6 HE7 HH1 a_8 HE9 a_11 HE12 a_13 HE14 a_15 HE16
    refine nrm ?_
    refine cnd_d HE18 rfl (fun hc22 => ?_) (fun hc22 => ?_)
    · refine wp_skip ?_
      refine nrm ?_
      refine wp_seq ?_
      refine wp_block ?_
      refine wp_seq ?_
      refine wp_seq ?_
      refine rg ?_
      refine pl_x HE18 HH10 (wt0 rfl) (x_move rfl) rfl rfl fun a_19 HE20 => ?_
      refine pl_x HE20 HH10 (wt0 rfl) (x_move rfl) rfl rfl fun a_21 HE22 => ?_
      have ke23 : i < a0.length := by omega
      obtain ⟨be23, fe23, ese23, Ae23, Re23, De23⟩ := el_old h0 ke23
      obtain ⟨e23, xe23⟩ : ∃ x, x = a0[i] := ⟨_, rfl⟩
      rw [← xe23] at Re23
      have Qe23 := Re23
      obtain ⟨Ae23_1, ce23_1, Ae23_2, ce23_2, Ae23_3, ce23_3, rfl, ge23_0, ge23_1, ge23_2, ge23_3, ge23_4⟩ := shape_MultiRule Re23
      have je23_0 := ge23_0; unfold I64 at je23_0
      have le23_1 := ge23_1.len
      have le23_2 := ge23_2.len
      have le23_3 := ge23_3.len
      have je23_4 := ge23_4; unfold I64 at je23_4
      obtain ⟨ze23, hze23⟩ : ∃ y, y = z[i]'(by omega) := ⟨_, rfl⟩
      have hxe23 : e23 = mk_MultiRule ze23 (a1 + (cntL ct_MultiRule (z.take i) : Int)) := by rw [xe23, hze23]; have hq := mkL_get mk_MultiRule ct_MultiRule z a1 i (by omega); have hr : a0[i]? = some _ := (by rw [sz]; exact hq); rw [List.getElem?_eq_getElem (by omega)] at hr; exact Option.some.inj hr
      have hc1 := cntL_take ct_MultiRule z i (by omega)
      have hc2 : cntL ct_MultiRule (z.take (i + 1)) ≤ ct_SMultiRule z := cntL_le ct_MultiRule z (i + 1)
      rw [← hze23] at hc1
      have hc3 : ct_MultiRule ze23 = 1 + ct_L ze23.2.1 + ct_L ze23.2.2.1 + ct_L ze23.2.2.2.1 + 1 := rfl
      have hi0e23 : e23.1 = (a1 + (cntL ct_MultiRule (z.take i) : Int)) := by rw [hxe23]; rfl
      have hi4e23 : e23.2.2.2.2 = (a1 + (cntL ct_MultiRule (z.take i) : Int)) + 1 + ((ct_L ze23.2.1 : Nat) : Int) + ((ct_L ze23.2.2.1 : Nat) : Int) + ((ct_L ze23.2.2.2.1 : Nat) : Int) := by rw [hxe23]; rfl
      refine pl_x HE22 HH10 (wt0 rfl) (x_indexAddr ts_22 rfl rfl Ae23 rfl ke23) rfl rfl fun a_23 HE24 => ?_
      refine pl_x HE24 HH10 (wt0 rfl) (x_fieldAddr fa_95_0 rfl) rfl rfl fun a_25 HE26 => ?_
      refine pl_x HE26 HH10 (wt0 rfl) (x_load1 tv_2 rfl (c_old (De23 0 _ rfl))) rfl rfl fun a_27 HE28 => ?_
      refine pl_x HE28 HH10 (wt0 rfl) (x_move rfl) rfl rfl fun a_29 HE30 => ?_
      refine pl_x HE30 HH10 (wt0 rfl) (x_neq rfl rfl) rfl rfl fun a_31 HE32 => ?_
      refine wpList_nil ?_
      clear a_17 HE18 a_19 HE20 a_21 HE22 a_23 HE24 a_25 HE26 a_27 HE28 a_29 HE30
      refine nrm ?_
      refine cnd_ne HE32 rfl (fun hc24 => ?_) (fun hc24 => ?_)
      · refine wp_seq ?_
        refine rg ?_
        refine pl_x HE32 HH10 (wt0 rfl) (x_assign rfl) rfl rfl fun a_33 HE34 => ?_
        refine wpList_nil ?_
        clear a_31 HE32
        refine nrm ?_
        refine wp_ret ?_
        refine (thn_ret (blk_ret (thn_ret (thn_ret (blk_ret (thn_ret ?_))))))
        refine ret1 HE34 rfl (rv_tmp rfl) ?_
        have hF : (a1 + (ct_SMultiRule z : Int)) = -1 := by
          first | (exfalso; omega) | (rw [show i = z.length from by omega, List.take_length]; rfl)
        exact ⟨by rw [hF] <;> rfl, HH10.below⟩
      · refine wp_skip ?_
        refine nrm ?_
        refine wp_seq ?_
        refine rg ?_
        refine pl_x HE32 HH10 (wt0 rfl) (x_move rfl) rfl rfl fun a_35 HE36 => ?_
        refine pl_x HE36 HH10 (wt0 rfl) (x_add rfl rfl (by exact ⟨by omega, by omega⟩)) rfl rfl fun a_37 HE38 => ?_
        refine pl_x HE38 HH10 (wt0 rfl) (x_assign rfl) rfl rfl fun a_39 HE40 => ?_
        refine wpList_nil ?_
        clear a_31 HE32 a_35 HE36 a_37 HE38
        refine nrm ?_
        refine wp_seq ?_
        refine rg ?_
        refine pl_x HE40 HH10 (wt0 rfl) (x_move rfl) rfl rfl fun a_41 HE42 => ?_
        refine pl_x HE42 HH10 (wt0 rfl) (x_move rfl) rfl rfl fun a_43 HE44 => ?_
        refine pl_x HE44 HH10 (wt0 rfl) (x_indexAddr ts_22 rfl rfl Ae23 rfl ke23) rfl rfl fun a_45 HE46 => ?_
        refine pl_x HE46 HH10 (wt0 rfl) (x_fieldAddr fa_95_1 rfl) rfl rfl fun a_47 HE48 => ?_
        refine pl_x HE48 HH10 (wt0 rfl) (x_load1 tv_31 rfl (c_old (De23 1 _ rfl))) rfl rfl fun a_49 HE50 => ?_
        refine pl_x HE50 HH10 (wt0 rfl) (x_move rfl) rfl rfl fun a_51 HE52 => ?_
        refine pl fun K_53 hK54 => ?_
        refine st_call HE52 (wt0 rfl) rfl rfl rfl en_46 rfl rfl (held_L_e _ _ e23.2.1 ((a1 + (cntL ct_MultiRule (z.take i) : Int)) + 1) ze23.2.1 _ (HH10.old ge23_1) (by rw [hxe23]; rfl) (by omega) (by omega)) fun e w' hr => ?_
        obtain ⟨rfl, hbr25⟩ := hr
        have HH55 := HH10.on hbr25
        clear hbr25
        refine ⟨_, rfl, fun a_56 HE57 => hK54 _ _ ?_⟩
        refine pl_x HE57 HH55 (wt0 rfl) (x_assign rfl) rfl rfl fun a_58 HE59 => ?_
        refine wpList_nil ?_
        clear a_39 HE40 a_41 HE42 a_43 HE44 a_45 HE46 a_47 HE48 a_49 HE50 HH10 a_51 HE52 a_56 HE57 hK54 K_53
        refine nrm ?_
        refine wp_seq ?_
        refine wp_seq ?_
        refine rg ?_
        refine pl_x HE59 HH55 (wt0 rfl) (x_move rfl) rfl rfl fun a_60 HE61 => ?_
        refine pl_x HE61 HH55 (wt0 rfl) (x_lss rfl rfl) rfl rfl fun a_62 HE63 => ?_
        refine wpList_nil ?_
        clear a_58 HE59 a_60 HE61
        refine nrm ?_
        refine cnd_d HE63 rfl (fun hc26 => ?_) (fun hc26 => ?_)
        · refine wp_seq ?_
          refine rg ?_
          refine pl_x HE63 HH55 (wt0 rfl) (x_assign rfl) rfl rfl fun a_64 HE65 => ?_
          refine wpList_nil ?_
          clear a_62 HE63
          refine nrm ?_
          refine wp_ret ?_
          refine (thn_ret (blk_ret (thn_ret (thn_ret (blk_ret (thn_ret ?_))))))
          refine ret1 HE65 rfl (rv_tmp rfl) ?_
          have hF : (a1 + (ct_SMultiRule z : Int)) = -1 := by
            first | (exfalso; omega) | (rw [show i = z.length from by omega, List.take_length]; rfl)
          exact ⟨by rw [hF] <;> rfl, HH55.below⟩
        · refine wp_skip ?_
          refine nrm ?_
          refine wp_seq ?_
          refine rg ?_
          refine pl_x HE63 HH55 (wt0 rfl) (x_move rfl) rfl rfl fun a_66 HE67 => ?_
          refine pl_x HE67 HH55 (wt0 rfl) (x_move rfl) rfl rfl fun a_68 HE69 => ?_
          refine pl_x HE69 HH55 (wt0 rfl) (x_indexAddr ts_22 rfl rfl Ae23 rfl ke23) rfl rfl fun a_70 HE71 => ?_
          refine pl_x HE71 HH55 (wt0 rfl) (x_fieldAddr fa_95_2 rfl) rfl rfl fun a_72 HE73 => ?_
          refine pl_x HE73 HH55 (wt0 rfl) (x_load1 tv_31 rfl (c_old (De23 2 _ rfl))) rfl rfl fun a_74 HE75 => ?_
          refine pl_x HE75 HH55 (wt0 rfl) (x_move rfl) rfl rfl fun a_76 HE77 => ?_
          refine pl fun K_78 hK79 => ?_
          refine st_call HE77 (wt0 rfl) rfl rfl rfl en_46 rfl rfl (held_L_e _ _ e23.2.2.1 (((a1 + (cntL ct_MultiRule (z.take i) : Int)) + 1) + (ct_L ze23.2.1 : Int)) ze23.2.2.1 _ (HH55.old ge23_2) (by rw [hxe23]; rfl) (by omega) (by omega)) fun e w' hr => ?_
          obtain ⟨rfl, hbr27⟩ := hr
          have HH80 := HH55.on hbr27
          clear hbr27
          refine ⟨_, rfl, fun a_81 HE82 => hK79 _ _ ?_⟩
          refine pl_x HE82 HH80 (wt0 rfl) (x_assign rfl) rfl rfl fun a_83 HE84 => ?_
          refine wpList_nil ?_
          clear a_62 HE63 a_66 HE67 a_68 HE69 a_70 HE71 a_72 HE73 a_74 HE75 HH55 a_76 HE77 a_81 HE82 hK79 K_78
          refine nrm ?_
          refine wp_seq ?_
          refine wp_seq ?_
          refine rg ?_
          refine pl_x HE84 HH80 (wt0 rfl) (x_move rfl) rfl rfl fun a_85 HE86 => ?_
          refine pl_x HE86 HH80 (wt0 rfl) (x_lss rfl rfl) rfl rfl fun a_87 HE88 => ?_
          refine wpList_nil ?_
          clear a_83 HE84 a_85 HE86
          refine nrm ?_
          refine cnd_d HE88 rfl (fun hc28 => ?_) (fun hc28 => ?_)
          · refine wp_seq ?_
            refine rg ?_
            refine pl_x HE88 HH80 (wt0 rfl) (x_assign rfl) rfl rfl fun a_89 HE90 => ?_
            refine wpList_nil ?_
            clear a_87 HE88
            refine nrm ?_
            refine wp_ret ?_
            refine (thn_ret (blk_ret (thn_ret (thn_ret (blk_ret (thn_ret ?_))))))
            refine ret1 HE90 rfl (rv_tmp rfl) ?_
            have hF : (a1 + (ct_SMultiRule z : Int)) = -1 := by
              first | (exfalso; omega) | (rw [show i = z.length from by omega, List.take_length]; rfl)
            exact ⟨by rw [hF] <;> rfl, HH80.below⟩
          · refine wp_skip ?_
            refine nrm ?_
            refine wp_seq ?_
            refine rg ?_
            refine pl_x HE88 HH80 (wt0 rfl) (x_move rfl) rfl rfl fun a_91 HE92 => ?_
            refine pl_x HE92 HH80 (wt0 rfl) (x_move rfl) rfl rfl fun a_93 HE94 => ?_
            refine pl_x HE94 HH80 (wt0 rfl) (x_indexAddr ts_22 rfl rfl Ae23 rfl ke23) rfl rfl fun a_95 HE96 => ?_
            refine pl_x HE96 HH80 (wt0 rfl) (x_fieldAddr fa_95_3 rfl) rfl rfl fun a_97 HE98 => ?_
            refine pl_x HE98 HH80 (wt0 rfl) (x_load1 tv_31 rfl (c_old (De23 3 _ rfl))) rfl rfl fun a_99 HE100 => ?_
            refine pl_x HE100 HH80 (wt0 rfl) (x_move rfl) rfl rfl fun a_101 HE102 => ?_
            refine pl fun K_103 hK104 => ?_
            refine st_call HE102 (wt0 rfl) rfl rfl rfl en_46 rfl rfl (held_L_e _ _ e23.2.2.2.1 ((((a1 + (cntL ct_MultiRule (z.take i) : Int)) + 1) + (ct_L ze23.2.1 : Int)) + (ct_L ze23.2.2.1 : Int)) ze23.2.2.2.1 _ (HH80.old ge23_3) (by rw [hxe23]; rfl) (by omega) (by omega)) fun e w' hr => ?_
            obtain ⟨rfl, hbr29⟩ := hr
            have HH105 := HH80.on hbr29
            clear hbr29
            refine ⟨_, rfl, fun a_106 HE107 => hK104 _ _ ?_⟩
            refine pl_x HE107 HH105 (wt0 rfl) (x_assign rfl) rfl rfl fun a_108 HE109 => ?_
            refine wpList_nil ?_
            clear a_87 HE88 a_91 HE92 a_93 HE94 a_95 HE96 a_97 HE98 a_99 HE100 HH80 a_101 HE102 a_106 HE107 hK104 K_103
            refine nrm ?_
            refine wp_seq ?_
            refine wp_seq ?_
            refine rg ?_
            refine pl_x HE109 HH105 (wt0 rfl) (x_move rfl) rfl rfl fun a_110 HE111 => ?_
            refine pl_x HE111 HH105 (wt0 rfl) (x_lss rfl rfl) rfl rfl fun a_112 HE113 => ?_
            refine wpList_nil ?_
            clear a_108 HE109 a_110 HE111
            refine nrm ?_
            refine cnd_d HE113 rfl (fun hc30 => ?_) (fun hc30 => ?_)
            · refine wp_seq ?_
              refine rg ?_
              refine pl_x HE113 HH105 (wt0 rfl) (x_assign rfl) rfl rfl fun a_114 HE115 => ?_
              refine wpList_nil ?_
              clear a_112 HE113
              refine nrm ?_
              refine wp_ret ?_
              refine (thn_ret (blk_ret (thn_ret (thn_ret (blk_ret (thn_ret ?_))))))
              refine ret1 HE115 rfl (rv_tmp rfl) ?_
              have hF : (a1 + (ct_SMultiRule z : Int)) = -1 := by
                first | (exfalso; omega) | (rw [show i = z.length from by omega, List.take_length]; rfl)
              exact ⟨by rw [hF] <;> rfl, HH105.below⟩
            · refine wp_skip ?_
              refine nrm ?_
              refine wp_seq ?_
              refine wp_seq ?_
              refine rg ?_
              refine pl_x HE113 HH105 (wt0 rfl) (x_move rfl) rfl rfl fun a_116 HE117 => ?_
              refine pl_x HE117 HH105 (wt0 rfl) (x_move rfl) rfl rfl fun a_118 HE119 => ?_
              refine pl_x HE119 HH105 (wt0 rfl) (x_indexAddr ts_22 rfl rfl Ae23 rfl ke23) rfl rfl fun a_120 HE121 => ?_
              refine pl_x HE121 HH105 (wt0 rfl) (x_fieldAddr fa_95_4 rfl) rfl rfl fun a_122 HE123 => ?_
              refine pl_x HE123 HH105 (wt0 rfl) (x_load1 tv_2 rfl (c_old (De23 4 _ rfl))) rfl rfl fun a_124 HE125 => ?_
              refine pl_x HE125 HH105 (wt0 rfl) (x_move rfl) rfl rfl fun a_126 HE127 => ?_
              refine pl_x HE127 HH105 (wt0 rfl) (x_neq rfl rfl) rfl rfl fun a_128 HE129 => ?_
              refine wpList_nil ?_
              clear a_112 HE113 a_116 HE117 a_118 HE119 a_120 HE121 a_122 HE123 a_124 HE125 a_126 HE127
              refine nrm ?_
              refine cnd_ne HE129 rfl (fun hc31 => ?_) (fun hc31 => ?_)
              · refine wp_seq ?_
                refine rg ?_
                refine pl_x HE129 HH105 (wt0 rfl) (x_assign rfl) rfl rfl fun a_130 HE131 => ?_
                refine wpList_nil ?_
                clear a_128 HE129
                refine nrm ?_
                refine wp_ret ?_
                refine (thn_ret (blk_ret (thn_ret (thn_ret (blk_ret (thn_ret ?_))))))
                refine ret1 HE131 rfl (rv_tmp rfl) ?_
                have hF : (a1 + (ct_SMultiRule z : Int)) = -1 := by
                  first | (exfalso; omega) | (rw [show i = z.length from by omega, List.take_length]; rfl)
                exact ⟨by rw [hF] <;> rfl, HH105.below⟩
              · refine wp_skip ?_
                refine nrm ?_
                refine rg ?_
                refine pl_x HE129 HH105 (wt0 rfl) (x_move rfl) rfl rfl fun a_132 HE133 => ?_
                refine pl_x HE133 HH105 (wt0 rfl) (x_add rfl rfl (by exact ⟨by omega, by omega⟩)) rfl rfl fun a_134 HE135 => ?_
                refine pl_x HE135 HH105 (wt0 rfl) (x_assign rfl) rfl rfl fun a_136 HE137 => ?_
                refine wpList_nil ?_
                clear a_128 HE129 a_132 HE133 a_134 HE135
                refine blk_n ?_
                refine nrm ?_
                refine rg ?_
                refine pl_x HE137 HH105 (wt0 rfl) (x_move rfl) rfl rfl fun a_138 HE139 => ?_
                refine pl_x HE139 HH105 (wt0 rfl) (x_add rfl rfl (by exact ⟨by omega, by omega⟩)) rfl rfl fun a_140 HE141 => ?_
                refine pl_x HE141 HH105 (wt0 rfl) (x_assign rfl) rfl rfl fun a_142 HE143 => ?_
                refine wpList_nil ?_
                clear a_136 HE137 a_138 HE139 a_140 HE141
                exact nrm ⟨a0.length - (i + 1), (by omega), i + 1, rfl, HE143.sub ⟨(lkI rfl (by omega)), (lkI rfl (by first | rfl | omega | (simp [p21_0, hc22, xe23, hc24, hc26, hc28, hc30, hc31]; done))), rfl, trivial⟩, (HH105.sel [] (by decide) rfl), (by first | omega | assumption | (simp; done) | simp_all)⟩
    · refine wp_exit ?_
      refine (thn_exit (thn_exit (blk_hit ?_)))
      refine nrm ?_
      refine wp_seq ?_
      refine rg ?_
      refine pl_x HE18 HH10 (wt0 rfl) (x_move rfl) rfl rfl fun a_144 HE145 => ?_
      refine pl_x HE145 HH10 (wt0 rfl) (x_assign rfl) rfl rfl fun a_146 HE147 => ?_
      refine wpList_nil ?_
      clear a_17 HE18 a_144 HE145
      refine nrm ?_
      refine wp_ret ?_
      refine ret1 HE147 rfl (rv_tmp rfl) ?_
      have hF : (a1 + (ct_SMultiRule z : Int)) = (a1 + (cntL ct_MultiRule (z.take i) : Int)) := by
        first | (exfalso; omega) | (rw [show i = z.length from by omega, List.take_length]; rfl)
      exact ⟨by rw [hF] <;> rfl, HH10.below⟩

def mkR_Multi (x : tMulti) (k : Int) : Int × tMulti := (k + (cv_Multi x : Int), mv_Multi x k)

set_option maxRecDepth 100000 in
set_option maxHeartbeats 4000000 in
theorem mark_Multi_h (M : Nat → Prop) (es0 : List Value) (a0 : tMulti) (S0 : Nat → Prop) (a1 : Int) (w : World) (HM : Held M w [rO eMulti S0 es0 a0] w) (s0 : 0 ≤ a1) (s1 : a1 + (cv_Multi a0 : Int) ≤ 1000000000000) :
    Calls Try.prog 18 #[.agg es0.toArray, .int .i64 a1] w fun e w' => ∃ (S0' : Nat → Prop), e = .returned (.int .i64 (mkR_Multi a0 a1).1) ∧ Held M w [rO eMulti S0' es0 (mkR_Multi a0 a1).2] w' := by
  have HH1 := HM
  have R0 := HH1.rd (i := 0) rfl
  obtain ⟨Az0_3, cz0_3, rfl, gz0_0, gz0_1, gz0_2, gz0_3⟩ := shape_Multi R0
  have jz0_0 := gz0_0; unfold I64 at jz0_0
  have jz0_1 := gz0_1; unfold I64 at jz0_1
  have jz0_2 := gz0_2; unfold I64 at jz0_2
  have lz0_3 := gz0_3.len
  clear R0
  have HH2 := HH1.unF rfl
  have HH3 := HH2.unF rfl
  have HH4 := HH3.unF rfl
  have hc0 : cv_Multi a0 = ct_SMultiRule a0.2.2.2 := rfl
  refine enter (n := 10) Try.func18 rfl rfl rfl fun a_5 HE6 => ?_
  refine wp_seq ?_
  refine rg ?_
  refine pl fun K_7 hK8 => ?_
  refine st_box (cs := [.int .i64 (a0.1), .int .i64 (a0.2.1), .int .i64 (a0.2.2.1), .slice Az0_3 (a0.2.2.2.length) cz0_3]) HE6 HH4 rfl rfl (wt0 rfl) rfl fun q21 a_9 w' HE10 HH11 => hK8 _ _ ?_
  refine pl_x HE10 HH11 (wt0 rfl) (x_assign rfl) rfl rfl fun a_12 HE13 => ?_
  refine wpList_nil ?_
  clear HH1 HH2 HH3 a_5 HE6 HH4 a_9 HE10 hK8 K_7
  refine nrm ?_
  refine wp_seq ?_
  refine rg ?_
  refine pl_x HE13 HH11 (wt0 rfl) (x_fieldAddr fa_24_3 rfl) rfl rfl fun a_14 HE15 => ?_
  refine pl_x HE15 HH11 (wt0 rfl) (x_load1 tv_22 rfl (c_blk 0 rfl rfl)) rfl rfl fun a_16 HE17 => ?_
  refine pl_x HE17 HH11 (wt0 rfl) (x_move rfl) rfl rfl fun a_18 HE19 => ?_
  refine pl fun K_20 hK21 => ?_
  have HH22 := HH11.sel [1, 0] (by decide) rfl
  have HH23 : Held M w ([rSo eMultiRule S0 Az0_3 cz0_3 a0.2.2.2] ++ [rBlk q21 24 [.int .i64 (a0.1), .int .i64 (a0.2.1), .int .i64 (a0.2.2.1), .slice Az0_3 (a0.2.2.2.length) cz0_3]]) _ := HH22
  refine st_call HE19 (wt0 rfl) rfl rfl rfl en_72 rfl rfl (mark_SMultiRule_h (Foot [rSo eMultiRule S0 Az0_3 cz0_3 a0.2.2.2]) _ _ a0.2.2.2 _ a1 _ HH23.focus (by omega) (by omega)) fun e w' hr => ?_
  obtain ⟨Sr22, rfl, hbr22⟩ := hr
  have HH24 := HH23.back hbr22
  clear hbr22
  have HH25 : Held M w (rSo eMultiRule Sr22 Az0_3 cz0_3 (mk_SMultiRule a0.2.2.2 a1) :: [rBlk q21 24 [.int .i64 (a0.1), .int .i64 (a0.2.1), .int .i64 (a0.2.2.1), .slice Az0_3 (a0.2.2.2.length) cz0_3]]) _ := HH24
  refine ⟨_, rfl, fun a_26 HE27 => hK21 _ _ ?_⟩
  refine pl_x HE27 HH25 (wt0 rfl) (x_assign rfl) rfl rfl fun a_28 HE29 => ?_
  refine wpList_nil ?_
  clear a_12 HE13 a_14 HE15 a_16 HE17 HH11 HH22 HH23 HH24 a_18 HE19 a_26 HE27 hK21 K_20
  refine nrm ?_
  refine wp_seq ?_
  refine rg ?_
  refine pl_x HE29 HH25 (wt0 rfl) (x_move rfl) rfl rfl fun a_30 HE31 => ?_
  refine pl_x HE31 HH25 (wt0 rfl) (x_assign rfl) rfl rfl fun a_32 HE33 => ?_
  refine wpList_nil ?_
  clear a_28 HE29 a_30 HE31
  refine nrm ?_
  refine wp_ret ?_
  refine ret1 HE33 rfl (rv_tmp rfl) ?_
  have HH34 := HH25.relen (n := a0.2.2.2.length) (by first | exact mkL_len _ _ _ _ | (simp; done) | (simp; omega))
  have HH35 := HH34.pairF (E := eInt) (c1 := [.int .i64 (a0.2.2.1)]) (x := a0.2.2.1) (oI (by exact ⟨by omega, by omega⟩))
  have HH36 := HH35.pairF (E := eInt) (c1 := [.int .i64 (a0.2.1)]) (x := a0.2.1) (oI (by exact ⟨by omega, by omega⟩))
  have HH37 := HH36.pairF (E := eInt) (c1 := [.int .i64 (a0.1)]) (x := a0.1) (oI (by exact ⟨by omega, by omega⟩))
  obtain ⟨S23, HH38⟩ : ∃ S, Held M w (rO eMulti S [.int .i64 (a0.1), .int .i64 (a0.2.1), .int .i64 (a0.2.2.1), .slice Az0_3 (a0.2.2.2.length) cz0_3] (a0.1, a0.2.1, a0.2.2.1, (mk_SMultiRule a0.2.2.2 a1)) :: _) _ := ⟨_, HH37⟩
  have hF : (mkR_Multi a0 a1) = ((a1 + (ct_SMultiRule a0.2.2.2 : Int)), (a0.1, a0.2.1, a0.2.2.1, (mk_SMultiRule a0.2.2.2 a1))) := by
    rfl
  exact ⟨_, by rw [hF] <;> rfl, by rw [hF]; exact HH38.sel [0] (by decide) rfl⟩

set_option maxRecDepth 100000 in
set_option maxHeartbeats 4000000 in
theorem held_Multi_e (es0 : List Value) (a0 : tMulti) (a1 : Int) (z : tMulti) (w : World) (h0 : eMulti.R w (Old w) es0 a0) (sz : a0 = mv_Multi z a1) (s0 : 0 ≤ a1) (s1 : a1 + (cv_Multi z : Int) ≤ 1000000000000) :
    Calls Try.prog 19 #[.agg es0.toArray, .int .i64 a1] w fun e w' => e = .returned (.int .i64 (a1 + (cv_Multi z : Int))) ∧ Below w.heap.size w w' := by
  have H0 := h0
  obtain ⟨Az0_3, cz0_3, rfl, gz0_0, gz0_1, gz0_2, gz0_3⟩ := shape_Multi h0
  have jz0_0 := gz0_0; unfold I64 at jz0_0
  have jz0_1 := gz0_1; unfold I64 at jz0_1
  have jz0_2 := gz0_2; unfold I64 at jz0_2
  have lz0_3 := gz0_3.len
  obtain ⟨za0, hza0⟩ : ∃ y, y = z := ⟨_, rfl⟩
  have hxa0 : a0 = mv_Multi za0 a1 := by rw [hza0]; exact sz
  have hc0 : cv_Multi z = ct_SMultiRule za0.2.2.2 := by rw [hza0]; rfl
  have HH1 := Held.start Nob w
  refine enter (n := 12) Try.func19 rfl rfl rfl fun a_2 HE3 => ?_
  refine wp_seq ?_
  refine rg ?_
  refine pl fun K_4 hK5 => ?_
  refine st_box (cs := [.int .i64 (a0.1), .int .i64 (a0.2.1), .int .i64 (a0.2.2.1), .slice Az0_3 (a0.2.2.2.length) cz0_3]) HE3 HH1 rfl rfl (wt0 rfl) rfl fun q21 a_6 w' HE7 HH8 => hK5 _ _ ?_
  refine pl_x HE7 HH8 (wt0 rfl) (x_assign rfl) rfl rfl fun a_9 HE10 => ?_
  refine wpList_nil ?_
  clear a_2 HE3 HH1 a_6 HE7 hK5 K_4
  refine nrm ?_
  refine wp_seq ?_
  refine rg ?_
  refine pl_x HE10 HH8 (wt0 rfl) (x_fieldAddr fa_24_3 rfl) rfl rfl fun a_11 HE12 => ?_
  refine pl_x HE12 HH8 (wt0 rfl) (x_load1 tv_22 rfl (c_blk 0 rfl rfl)) rfl rfl fun a_13 HE14 => ?_
  refine pl_x HE14 HH8 (wt0 rfl) (x_move rfl) rfl rfl fun a_15 HE16 => ?_
  refine pl fun K_17 hK18 => ?_
  refine st_call HE16 (wt0 rfl) rfl rfl rfl en_73 rfl rfl (held_SMultiRule_e _ _ a0.2.2.2 a1 za0.2.2.2 _ (HH8.old gz0_3) (by rw [hxa0]; rfl) (by omega) (by omega)) fun e w' hr => ?_
  obtain ⟨rfl, hbr22⟩ := hr
  have HH19 := HH8.on hbr22
  clear hbr22
  refine ⟨_, rfl, fun a_20 HE21 => hK18 _ _ ?_⟩
  refine pl_x HE21 HH19 (wt0 rfl) (x_assign rfl) rfl rfl fun a_22 HE23 => ?_
  refine wpList_nil ?_
  clear a_9 HE10 a_11 HE12 a_13 HE14 HH8 a_15 HE16 a_20 HE21 hK18 K_17
  refine nrm ?_
  refine wp_seq ?_
  refine wp_seq ?_
  refine rg ?_
  refine pl_x HE23 HH19 (wt0 rfl) (x_move rfl) rfl rfl fun a_24 HE25 => ?_
  refine pl_x HE25 HH19 (wt0 rfl) (x_lss rfl rfl) rfl rfl fun a_26 HE27 => ?_
  refine wpList_nil ?_
  clear a_22 HE23 a_24 HE25
  refine nrm ?_
  refine cnd_d HE27 rfl (fun hc23 => ?_) (fun hc23 => ?_)
  · refine wp_seq ?_
    refine rg ?_
    refine pl_x HE27 HH19 (wt0 rfl) (x_assign rfl) rfl rfl fun a_28 HE29 => ?_
    refine wpList_nil ?_
    clear a_26 HE27
    refine nrm ?_
    refine wp_ret ?_
    refine (thn_ret ?_)
    refine ret1 HE29 rfl (rv_tmp rfl) ?_
    have hF : (a1 + (cv_Multi z : Int)) = -1 := by
      first | (exfalso; omega) | (rw [hc0])
    exact ⟨by rw [hF] <;> rfl, HH19.below⟩
  · refine wp_skip ?_
    refine nrm ?_
    refine wp_seq ?_
    refine rg ?_
    refine pl_x HE27 HH19 (wt0 rfl) (x_move rfl) rfl rfl fun a_30 HE31 => ?_
    refine pl_x HE31 HH19 (wt0 rfl) (x_assign rfl) rfl rfl fun a_32 HE33 => ?_
    refine wpList_nil ?_
    clear a_26 HE27 a_30 HE31
    refine nrm ?_
    refine wp_ret ?_
    refine ret1 HE33 rfl (rv_tmp rfl) ?_
    have hF : (a1 + (cv_Multi z : Int)) = (a1 + (ct_SMultiRule za0.2.2.2 : Int)) := by
      first | (exfalso; omega) | (rw [hc0])
    exact ⟨by rw [hF] <;> rfl, HH19.below⟩

def two6 (state a b moveA moveB next : Int) : tMultiRule := (state, [a, b], [a, b], [moveA, moveB], next)

def two7 (state a b write one two next : Int) : tMultiRule := (state, [a, b], [a, write], [one, two], next)

def copyTo (k : Nat) : List tMultiRule := (List.range k).map fun (j : Nat) => two7 0 ((j : Int) + 1) 0 ((j : Int) + 1) 1 1 0

theorem copyTo_succ (k : Nat) : copyTo (k + 1) = copyTo k ++ [two7 0 ((k : Int) + 1) 0 ((k : Int) + 1) 1 1 0] := by
  unfold copyTo; rw [List.range_succ, List.map_append]; rfl

theorem copyTo_len (k : Nat) : (copyTo k).length = k := by simp [copyTo]

def copyRls (s : Int) : List tMultiRule := copyTo (s - 1).toNat

def copyMulti (s : Int) : tMulti × Int := if withinB s 2 3 = true then ((2, s, 1, copyRls s), 0) else ((0, 0, 0, []), 2)

theorem copyMulti_ct (s : Int) : (cv_Multi (copyMulti s).1 : Int) ≤ 1000000000 := by
  unfold copyMulti
  split
  · rename_i h
    have h0 := withinB_true.1 h
    show (ct_SMultiRule (copyRls s) : Int) ≤ _
    have h1 : ct_SMultiRule (copyRls s) ≤ 8 * (copyRls s).length := cntL_bound fun x hx => by
      obtain ⟨j, _, rfl⟩ := List.mem_map.1 hx
      exact Nat.le_refl 8
    have h2 : (copyRls s).length = (s - 1).toNat := copyTo_len _
    omega
  · exact (by decide : (cv_Multi (0, 0, 0, []) : Int) ≤ 1000000000)

set_option maxRecDepth 100000 in
set_option maxHeartbeats 4000000 in
theorem impl_twoTapes (a0 : Int) (a1 : Int) (a2 : Int) (a3 : Int) (a4 : Int) (a5 : Int) (w : World) (s0 : -1000 ≤ a0 ∧ a0 ≤ 1000) (s1 : -1000 ≤ a1 ∧ a1 ≤ 1000) (s2 : -1000 ≤ a2 ∧ a2 ≤ 1000) (s3 : -1000 ≤ a3 ∧ a3 ≤ 1000) (s4 : -1000 ≤ a4 ∧ a4 ≤ 1000) (s5 : -1000 ≤ a5 ∧ a5 ≤ 1000) :
    Calls Try.prog 141 #[.int .i64 a0, .int .i64 a1, .int .i64 a2, .int .i64 a3, .int .i64 a4, .int .i64 a5] w fun e w' => ∃ (es0' : List Value), e = .returned (.agg es0'.toArray) ∧ eMultiRule.O w' (Fr w w') es0' (two6 a0 a1 a2 a3 a4 a5) ∧ Below w.heap.size w w' := by
  have HH1 := Held.start Nob w
  refine enter (n := 25) Try.func141 rfl rfl rfl fun a_2 HE3 => ?_
  refine wp_seq ?_
  refine rg ?_
  refine pl fun K_4 hK5 => ?_
  refine st_alloc HE3 HH1 tv_95 (wt0 rfl) rfl fun q21 a_6 w' HE7 HH8 => hK5 _ _ ?_
  refine wpList_nil ?_
  clear a_2 HE3 HH1 hK5 K_4
  refine nrm ?_
  refine wp_seq ?_
  refine rg ?_
  refine pl_x HE7 HH8 (wt0 rfl) (x_move rfl) rfl rfl fun a_9 HE10 => ?_
  refine pl_x HE10 HH8 (wt0 rfl) (x_move rfl) rfl rfl fun a_11 HE12 => ?_
  refine pl_x HE12 HH8 (wt0 rfl) (x_move rfl) rfl rfl fun a_13 HE14 => ?_
  refine pl fun K_15 hK16 => ?_
  refine st_lit (m := 2) (cs := [.int .i64 (a1), .int .i64 (a2)]) (e := 2) HE14 HH8 (run_lit ts_31 HE14 (vs := [.int .i64 (a1), .int .i64 (a2)]) rfl rfl (by simp [Value.cells]) rfl (by decide)) (wt0 rfl) rfl rfl fun q22 a_17 w' HE18 HH19 => hK16 _ _ ?_
  refine pl_x HE18 HH19 (wt0 rfl) (x_move rfl) rfl rfl fun a_20 HE21 => ?_
  refine pl_x HE21 HH19 (wt0 rfl) (x_move rfl) rfl rfl fun a_22 HE23 => ?_
  refine pl fun K_24 hK25 => ?_
  refine st_lit (m := 2) (cs := [.int .i64 (a1), .int .i64 (a2)]) (e := 2) HE23 HH19 (run_lit ts_31 HE23 (vs := [.int .i64 (a1), .int .i64 (a2)]) rfl rfl (by simp [Value.cells]) rfl (by decide)) (wt0 rfl) rfl rfl fun q23 a_26 w' HE27 HH28 => hK25 _ _ ?_
  refine pl_x HE27 HH28 (wt0 rfl) (x_move rfl) rfl rfl fun a_29 HE30 => ?_
  refine pl_x HE30 HH28 (wt0 rfl) (x_move rfl) rfl rfl fun a_31 HE32 => ?_
  refine pl fun K_33 hK34 => ?_
  refine st_lit (m := 2) (cs := [.int .i64 (a3), .int .i64 (a4)]) (e := 2) HE32 HH28 (run_lit ts_31 HE32 (vs := [.int .i64 (a3), .int .i64 (a4)]) rfl rfl (by simp [Value.cells]) rfl (by decide)) (wt0 rfl) rfl rfl fun q24 a_35 w' HE36 HH37 => hK34 _ _ ?_
  refine pl_x HE36 HH37 (wt0 rfl) (x_move rfl) rfl rfl fun a_38 HE39 => ?_
  refine pl_x HE39 HH37 (wt0 rfl) (show XS _ _ _ _ (.agg #[.int .i64 (a0), .slice (some ⟨q22, 0, none⟩) (2) 2, .slice (some ⟨q23, 0, none⟩) (2) 2, .slice (some ⟨q24, 0, none⟩) (2) 2, .int .i64 (a5)]) from x_build (vs := [(0, .int .i64 (a0)), (1, .slice (some ⟨q22, 0, none⟩) (2) 2), (2, .slice (some ⟨q23, 0, none⟩) (2) 2), (3, .slice (some ⟨q24, 0, none⟩) (2) 2), (4, .int .i64 (a5))]) tb_95 rfl (by simp [Value.oneCell'])) rfl rfl fun a_40 HE41 => ?_
  refine pl fun K_42 hK43 => ?_
  refine st_store (vs := [.int .i64 (a0), .slice (some ⟨q22, 0, none⟩) (2) 2, .slice (some ⟨q23, 0, none⟩) (2) 2, .slice (some ⟨q24, 0, none⟩) (2) 2, .int .i64 (a5)]) 3 HE41 HH37 tv_95 rfl rfl rfl rfl rfl rfl (by simp [Value.oneCell']) (wt0 rfl) fun w' HH44 => hK43 _ _ ?_
  refine wpList_nil ?_
  clear a_6 HE7 a_9 HE10 a_11 HE12 a_13 HE14 HH8 a_17 HE18 a_20 HE21 K_15 hK16 a_22 HE23 HH19 a_26 HE27 a_29 HE30 K_24 hK25 a_31 HE32 HH28 a_35 HE36 a_38 HE39 K_33 hK34 HH37 hK43 K_42
  refine nrm ?_
  refine wp_ret ?_
  refine ret1 HE41 rfl (rv_cell rfl (tv_95.loadN (cs := [.int .i64 (a0), .slice (some ⟨q22, 0, none⟩) (2) 2, .slice (some ⟨q23, 0, none⟩) (2) 2, .slice (some ⟨q24, 0, none⟩) (2) 2, .int .i64 (a5)]) rfl (c_blkN 3 rfl _ HH44))) ?_
  have HH45 := HH44.sel [2, 0, 1, 3] (by decide) rfl
  have HH46 := Held.vecFlat (E := eInt) (xs := [a1, a2]) (css := [[.int .i64 (a1)], [.int .i64 (a2)]]) HH45 rfl (by unfold maxLen; simp) (fun i x hx => by match i with | 0 => exact ⟨_, rfl, fun _ => by simp at hx; subst hx; exact (oI (by exact ⟨by omega, by omega⟩))⟩ | 1 => exact ⟨_, rfl, fun _ => by simp at hx; subst hx; exact (oI (by exact ⟨by omega, by omega⟩))⟩ | i + 2 => simp at hx)
  have HH47 := HH46.vecSo
  have HH48 := HH47.relen (n := 2) (by first | exact mkL_len _ _ _ _ | (simp; done) | (simp; omega))
  have HH49 := HH48.sel [2, 0, 1, 3] (by decide) rfl
  have HH50 := Held.vecFlat (E := eInt) (xs := [a1, a2]) (css := [[.int .i64 (a1)], [.int .i64 (a2)]]) HH49 rfl (by unfold maxLen; simp) (fun i x hx => by match i with | 0 => exact ⟨_, rfl, fun _ => by simp at hx; subst hx; exact (oI (by exact ⟨by omega, by omega⟩))⟩ | 1 => exact ⟨_, rfl, fun _ => by simp at hx; subst hx; exact (oI (by exact ⟨by omega, by omega⟩))⟩ | i + 2 => simp at hx)
  have HH51 := HH50.vecSo
  have HH52 := HH51.relen (n := 2) (by first | exact mkL_len _ _ _ _ | (simp; done) | (simp; omega))
  have HH53 := HH52.sel [2, 0, 1, 3] (by decide) rfl
  have HH54 := Held.vecFlat (E := eInt) (xs := [a3, a4]) (css := [[.int .i64 (a3)], [.int .i64 (a4)]]) HH53 rfl (by unfold maxLen; simp) (fun i x hx => by match i with | 0 => exact ⟨_, rfl, fun _ => by simp at hx; subst hx; exact (oI (by exact ⟨by omega, by omega⟩))⟩ | 1 => exact ⟨_, rfl, fun _ => by simp at hx; subst hx; exact (oI (by exact ⟨by omega, by omega⟩))⟩ | i + 2 => simp at hx)
  have HH55 := HH54.vecSo
  have HH56 := HH55.relen (n := 2) (by first | exact mkL_len _ _ _ _ | (simp; done) | (simp; omega))
  have HH57 := HH56.sel [2, 1, 0, 3] (by decide) rfl
  have HH58 := HH57.sel [2, 0, 1, 3] (by decide) rfl
  have HH59 := HH58.pairB (F := eInt) (c2 := [.int .i64 (a5)]) (y := a5) (oI (by exact ⟨by omega, by omega⟩))
  have HH60 := HH59.sel [2, 0, 1, 3] (by decide) rfl
  have HH61 := HH60.pair
  have HH62 := HH61.sel [1, 0, 2] (by decide) rfl
  have HH63 := HH62.pair
  have HH64 := HH63.pairF (E := eInt) (c1 := [.int .i64 (a0)]) (x := a0) (oI (by exact ⟨by omega, by omega⟩))
  obtain ⟨S25, HH65⟩ : ∃ S, Held Nob w (rO eMultiRule S [.int .i64 (a0), .slice (some ⟨q22, 0, none⟩) (2) 2, .slice (some ⟨q23, 0, none⟩) (2) 2, .slice (some ⟨q24, 0, none⟩) (2) 2, .int .i64 (a5)] (a0, ([a1, a2] : List Int), ([a1, a2] : List Int), ([a3, a4] : List Int), a5) :: _) _ := ⟨_, HH64⟩
  have hF : (two6 a0 a1 a2 a3 a4 a5) = (a0, ([a1, a2] : List Int), ([a1, a2] : List Int), ([a3, a4] : List Int), a5) := by
    first | rfl | (simp [two6]; done) | (simp [two6]; omega) | grind [two6]
  exact ⟨_, rfl, by rw [hF]; exact (HH65.o (i := 0) rfl), HH65.below⟩

set_option maxRecDepth 100000 in
set_option maxHeartbeats 4000000 in
theorem spec_l06Make (a0 : Int) (a1 : Int) (a2 : Int) (a3 : Int) (a4 : Int) (a5 : Int) (a6 : Int) (w : World) (s0 : -1000 ≤ a0 ∧ a0 ≤ 1000) (s1 : -1000 ≤ a1 ∧ a1 ≤ 1000) (s2 : -1000 ≤ a2 ∧ a2 ≤ 1000) (s3 : -1000 ≤ a3 ∧ a3 ≤ 1000) (s4 : -1000 ≤ a4 ∧ a4 ≤ 1000) (s5 : -1000 ≤ a5 ∧ a5 ≤ 1000) (s6 : -1000 ≤ a6 ∧ a6 ≤ 1000) :
    Calls Try.prog 68 #[.int .i64 a0, .int .i64 a1, .int .i64 a2, .int .i64 a3, .int .i64 a4, .int .i64 a5, .int .i64 a6] w fun e w' => ∃ (es0' : List Value), e = .returned (.agg es0'.toArray) ∧ eMultiRule.O w' (Fr w w') es0' (two7 a0 a1 a2 a3 a4 a5 a6) ∧ Below w.heap.size w w' := by
  have HH1 := Held.start Nob w
  refine enter (n := 27) Try.func68 rfl rfl rfl fun a_2 HE3 => ?_
  refine wp_seq ?_
  refine rg ?_
  refine pl fun K_4 hK5 => ?_
  refine st_alloc HE3 HH1 tv_95 (wt0 rfl) rfl fun q21 a_6 w' HE7 HH8 => hK5 _ _ ?_
  refine wpList_nil ?_
  clear a_2 HE3 HH1 hK5 K_4
  refine nrm ?_
  refine wp_seq ?_
  refine rg ?_
  refine pl_x HE7 HH8 (wt0 rfl) (x_move rfl) rfl rfl fun a_9 HE10 => ?_
  refine pl_x HE10 HH8 (wt0 rfl) (x_move rfl) rfl rfl fun a_11 HE12 => ?_
  refine pl_x HE12 HH8 (wt0 rfl) (x_move rfl) rfl rfl fun a_13 HE14 => ?_
  refine pl fun K_15 hK16 => ?_
  refine st_lit (m := 2) (cs := [.int .i64 (a1), .int .i64 (a2)]) (e := 2) HE14 HH8 (run_lit ts_31 HE14 (vs := [.int .i64 (a1), .int .i64 (a2)]) rfl rfl (by simp [Value.cells]) rfl (by decide)) (wt0 rfl) rfl rfl fun q22 a_17 w' HE18 HH19 => hK16 _ _ ?_
  refine pl_x HE18 HH19 (wt0 rfl) (x_move rfl) rfl rfl fun a_20 HE21 => ?_
  refine pl_x HE21 HH19 (wt0 rfl) (x_move rfl) rfl rfl fun a_22 HE23 => ?_
  refine pl fun K_24 hK25 => ?_
  refine st_lit (m := 2) (cs := [.int .i64 (a1), .int .i64 (a3)]) (e := 2) HE23 HH19 (run_lit ts_31 HE23 (vs := [.int .i64 (a1), .int .i64 (a3)]) rfl rfl (by simp [Value.cells]) rfl (by decide)) (wt0 rfl) rfl rfl fun q23 a_26 w' HE27 HH28 => hK25 _ _ ?_
  refine pl_x HE27 HH28 (wt0 rfl) (x_move rfl) rfl rfl fun a_29 HE30 => ?_
  refine pl_x HE30 HH28 (wt0 rfl) (x_move rfl) rfl rfl fun a_31 HE32 => ?_
  refine pl fun K_33 hK34 => ?_
  refine st_lit (m := 2) (cs := [.int .i64 (a4), .int .i64 (a5)]) (e := 2) HE32 HH28 (run_lit ts_31 HE32 (vs := [.int .i64 (a4), .int .i64 (a5)]) rfl rfl (by simp [Value.cells]) rfl (by decide)) (wt0 rfl) rfl rfl fun q24 a_35 w' HE36 HH37 => hK34 _ _ ?_
  refine pl_x HE36 HH37 (wt0 rfl) (x_move rfl) rfl rfl fun a_38 HE39 => ?_
  refine pl_x HE39 HH37 (wt0 rfl) (show XS _ _ _ _ (.agg #[.int .i64 (a0), .slice (some ⟨q22, 0, none⟩) (2) 2, .slice (some ⟨q23, 0, none⟩) (2) 2, .slice (some ⟨q24, 0, none⟩) (2) 2, .int .i64 (a6)]) from x_build (vs := [(0, .int .i64 (a0)), (1, .slice (some ⟨q22, 0, none⟩) (2) 2), (2, .slice (some ⟨q23, 0, none⟩) (2) 2), (3, .slice (some ⟨q24, 0, none⟩) (2) 2), (4, .int .i64 (a6))]) tb_95 rfl (by simp [Value.oneCell'])) rfl rfl fun a_40 HE41 => ?_
  refine pl fun K_42 hK43 => ?_
  refine st_store (vs := [.int .i64 (a0), .slice (some ⟨q22, 0, none⟩) (2) 2, .slice (some ⟨q23, 0, none⟩) (2) 2, .slice (some ⟨q24, 0, none⟩) (2) 2, .int .i64 (a6)]) 3 HE41 HH37 tv_95 rfl rfl rfl rfl rfl rfl (by simp [Value.oneCell']) (wt0 rfl) fun w' HH44 => hK43 _ _ ?_
  refine wpList_nil ?_
  clear a_6 HE7 a_9 HE10 a_11 HE12 a_13 HE14 HH8 a_17 HE18 a_20 HE21 K_15 hK16 a_22 HE23 HH19 a_26 HE27 a_29 HE30 K_24 hK25 a_31 HE32 HH28 a_35 HE36 a_38 HE39 K_33 hK34 HH37 hK43 K_42
  refine nrm ?_
  refine wp_ret ?_
  refine ret1 HE41 rfl (rv_cell rfl (tv_95.loadN (cs := [.int .i64 (a0), .slice (some ⟨q22, 0, none⟩) (2) 2, .slice (some ⟨q23, 0, none⟩) (2) 2, .slice (some ⟨q24, 0, none⟩) (2) 2, .int .i64 (a6)]) rfl (c_blkN 3 rfl _ HH44))) ?_
  have HH45 := HH44.sel [2, 0, 1, 3] (by decide) rfl
  have HH46 := Held.vecFlat (E := eInt) (xs := [a1, a2]) (css := [[.int .i64 (a1)], [.int .i64 (a2)]]) HH45 rfl (by unfold maxLen; simp) (fun i x hx => by match i with | 0 => exact ⟨_, rfl, fun _ => by simp at hx; subst hx; exact (oI (by exact ⟨by omega, by omega⟩))⟩ | 1 => exact ⟨_, rfl, fun _ => by simp at hx; subst hx; exact (oI (by exact ⟨by omega, by omega⟩))⟩ | i + 2 => simp at hx)
  have HH47 := HH46.vecSo
  have HH48 := HH47.relen (n := 2) (by first | exact mkL_len _ _ _ _ | (simp; done) | (simp; omega))
  have HH49 := HH48.sel [2, 0, 1, 3] (by decide) rfl
  have HH50 := Held.vecFlat (E := eInt) (xs := [a1, a3]) (css := [[.int .i64 (a1)], [.int .i64 (a3)]]) HH49 rfl (by unfold maxLen; simp) (fun i x hx => by match i with | 0 => exact ⟨_, rfl, fun _ => by simp at hx; subst hx; exact (oI (by exact ⟨by omega, by omega⟩))⟩ | 1 => exact ⟨_, rfl, fun _ => by simp at hx; subst hx; exact (oI (by exact ⟨by omega, by omega⟩))⟩ | i + 2 => simp at hx)
  have HH51 := HH50.vecSo
  have HH52 := HH51.relen (n := 2) (by first | exact mkL_len _ _ _ _ | (simp; done) | (simp; omega))
  have HH53 := HH52.sel [2, 0, 1, 3] (by decide) rfl
  have HH54 := Held.vecFlat (E := eInt) (xs := [a4, a5]) (css := [[.int .i64 (a4)], [.int .i64 (a5)]]) HH53 rfl (by unfold maxLen; simp) (fun i x hx => by match i with | 0 => exact ⟨_, rfl, fun _ => by simp at hx; subst hx; exact (oI (by exact ⟨by omega, by omega⟩))⟩ | 1 => exact ⟨_, rfl, fun _ => by simp at hx; subst hx; exact (oI (by exact ⟨by omega, by omega⟩))⟩ | i + 2 => simp at hx)
  have HH55 := HH54.vecSo
  have HH56 := HH55.relen (n := 2) (by first | exact mkL_len _ _ _ _ | (simp; done) | (simp; omega))
  have HH57 := HH56.sel [2, 1, 0, 3] (by decide) rfl
  have HH58 := HH57.sel [2, 0, 1, 3] (by decide) rfl
  have HH59 := HH58.pairB (F := eInt) (c2 := [.int .i64 (a6)]) (y := a6) (oI (by exact ⟨by omega, by omega⟩))
  have HH60 := HH59.sel [2, 0, 1, 3] (by decide) rfl
  have HH61 := HH60.pair
  have HH62 := HH61.sel [1, 0, 2] (by decide) rfl
  have HH63 := HH62.pair
  have HH64 := HH63.pairF (E := eInt) (c1 := [.int .i64 (a0)]) (x := a0) (oI (by exact ⟨by omega, by omega⟩))
  obtain ⟨S25, HH65⟩ : ∃ S, Held Nob w (rO eMultiRule S [.int .i64 (a0), .slice (some ⟨q22, 0, none⟩) (2) 2, .slice (some ⟨q23, 0, none⟩) (2) 2, .slice (some ⟨q24, 0, none⟩) (2) 2, .int .i64 (a6)] (a0, ([a1, a2] : List Int), ([a1, a3] : List Int), ([a4, a5] : List Int), a6) :: _) _ := ⟨_, HH64⟩
  have hF : (two7 a0 a1 a2 a3 a4 a5 a6) = (a0, ([a1, a2] : List Int), ([a1, a3] : List Int), ([a4, a5] : List Int), a6) := by
    first | rfl | (simp [two7]; done) | (simp [two7]; omega) | grind [two7]
  exact ⟨_, rfl, by rw [hF]; exact (HH65.o (i := 0) rfl), HH65.below⟩

set_option maxRecDepth 100000 in
set_option maxHeartbeats 4000000 in
theorem impl_copyRules (a0 : Int) (w : World) (s0 : 2 ≤ a0 ∧ a0 ≤ 3) :
    Calls Try.prog 70 #[.int .i64 a0] w fun e w' => ∃ (A0' : Option Addr) (c0' : Nat) (S0' : Nat → Prop), e = .returned (.slice A0' (copyRls a0).length c0') ∧ Held Nob w [rVec eMultiRule 95 S0' A0' c0' (copyRls a0)] w' := by
  have HH1 := Held.start Nob w
  refine enter (n := 23) Try.func70 rfl rfl rfl fun a_2 HE3 => ?_
  refine wp_seq ?_
  refine rg ?_
  refine pl_x HE3 HH1 (wt0 rfl) (x_assign rfl) rfl rfl fun a_4 HE5 => ?_
  refine wpList_nil ?_
  clear a_2 HE3
  refine nrm ?_
  refine wp_seq ?_
  refine rg ?_
  refine pl fun K_6 hK7 => ?_
  refine st_lit (m := 0) (cs := []) (e := 95) HE5 HH1 (run_lit ts_22 HE5 (vs := []) rfl rfl (by simp [Value.cells]) rfl (by decide)) (wt0 rfl) rfl rfl fun q21 a_8 w' HE9 HH10 => hK7 _ _ ?_
  refine pl_x HE9 HH10 (wt0 rfl) (x_assign rfl) rfl rfl fun a_11 HE12 => ?_
  refine wpList_nil ?_
  clear a_4 HE5 HH1 a_8 HE9 hK7 K_6
  refine nrm ?_
  refine wp_seq ?_
  refine wp_seq ?_
  refine rg ?_
  refine pl_x HE12 HH10 (wt0 rfl) (x_assign rfl) rfl rfl fun a_13 HE14 => ?_
  refine wpList_nil ?_
  clear a_11 HE12
  refine nrm ?_
  refine wp_block ?_
  have HH15 := Held.vecFlat (E := eMultiRule) (xs := []) (css := []) HH10 rfl (Nat.zero_le _) (fun i x hx => by simp at hx)
  refine lp (fun m a w' => ∃ (k : Nat) (A_3 : Option Addr) (c_3 : Nat) (S_3 : Nat → Prop), m = (a0 - (k : Int)).toNat ∧ Env 23 [(3, .slice A_3 (List.length (copyTo k)) c_3), (4, .int .i64 ((k : Int) + 1)), (0, .int .i64 (a0))] a ∧ Held Nob w [rVec eMultiRule 95 S_3 A_3 c_3 (copyTo k)] w' ∧ ((k : Int) + 1 ≤ a0)) ((a0 - ((0) : Int)).toNat) ?_ ?_
  · have E22 : copyTo 0 = ([] : List tMultiRule) := by
      first | rfl | simp
    exact ⟨0, (some ⟨q21, 0, none⟩), (List.length (α := tMultiRule) []), (fun b => b = q21), rfl, HE14.sub ⟨(by rw [E22]; rfl), (lkI rfl (by first | rfl | omega | (simp []; done))), rfl, trivial⟩, ((HH15.sel [0] (by decide) rfl).to (by first | rfl | (rw [E22]; done) | (rw [E22]; rfl) | (simp only [E22]; done) | (simp only [E22]; rfl))), (by first | omega | assumption | (simp; done) | simp_all)⟩
  · rintro m a_16 w' ⟨k, A_3, c_3, S_3, rfl, HE17, HH18, p23_0⟩
    have ol := copyTo_len k
    refine wp_seq ?_
    refine wp_seq ?_
    refine rg ?_
    refine pl_x HE17 HH18 (wt0 rfl) (x_move rfl) rfl rfl fun a_19 HE20 => ?_
    refine pl_x HE20 HH18 (wt0 rfl) (x_move rfl) rfl rfl fun a_21 HE22 => ?_
    refine pl_x HE22 HH18 (wt0 rfl) (x_lss rfl rfl) rfl rfl fun a_23 HE24 => ?_
    refine wpList_nil ?_
    clear HH10 a_13 HE14 HH15 a_16 HE17 a_19 HE20 a_21 HE22
    refine nrm ?_
    refine cnd_d HE24 rfl (fun hc24 => ?_) (fun hc24 => ?_)
    · refine wp_skip ?_
      refine nrm ?_
      refine wp_seq ?_
      refine wp_block ?_
      refine wp_seq ?_
      refine rg ?_
      refine pl_x HE24 HH18 (wt0 rfl) (x_move rfl) rfl rfl fun a_25 HE26 => ?_
      refine pl fun K_27 hK28 => ?_
      refine st_call HE26 (wt0 rfl) rfl rfl rfl en_141 rfl rfl (impl_twoTapes 0 ((k : Int) + 1) 0 1 1 0 _ (by omega) (by omega) (by omega) (by omega) (by omega) (by omega)) fun e w' hr => ?_
      obtain ⟨esr25_0, rfl, hor25_0, hbr25⟩ := hr
      have hr := eMultiRule.read hor25_0
      obtain ⟨Sr25, HH29⟩ := HH18.newO hbr25 hor25_0
      obtain ⟨Ar25_0_1, cr25_0_1, Ar25_0_2, cr25_0_2, Ar25_0_3, cr25_0_3, rfl, gr25_0_0, gr25_0_1, gr25_0_2, gr25_0_3, gr25_0_4⟩ := shape_MultiRule hr
      have jr25_0_0 := gr25_0_0; unfold I64 at jr25_0_0
      have jr25_0_4 := gr25_0_4; unfold I64 at jr25_0_4
      have HH30 := HH29.unF rfl
      obtain ⟨S26, S27, HH31⟩ := HH30.unP rfl
      have HH32 := HH31.sel [1, 0, 2] (by decide) rfl
      obtain ⟨S28, S29, HH33⟩ := HH32.unP rfl
      have HH34 := HH33.sel [1, 0, 2, 3] (by decide) rfl
      obtain ⟨S30, S31, HH35⟩ := HH34.unP rfl
      have HH36 := HH35.sel [1, 0, 2, 3, 4] (by decide) rfl
      have HH37 := HH36.sel [1, 2, 3, 4] (by decide) rfl
      refine ⟨_, rfl, fun a_38 HE39 => hK28 _ _ ?_⟩
      refine pl fun K_40 hK41 => ?_
      refine st_alloc HE39 HH37 tv_95 (wt0 rfl) rfl fun q32 a_42 w' HE43 HH44 => hK41 _ _ ?_
      refine pl fun K_45 hK46 => ?_
      refine st_store (vs := [.int .i64 ((two6 0 ((k : Int) + 1) 0 1 1 0).1), .slice Ar25_0_1 ((two6 0 ((k : Int) + 1) 0 1 1 0).2.1.length) cr25_0_1, .slice Ar25_0_2 ((two6 0 ((k : Int) + 1) 0 1 1 0).2.2.1.length) cr25_0_2, .slice Ar25_0_3 ((two6 0 ((k : Int) + 1) 0 1 1 0).2.2.2.1.length) cr25_0_3, .int .i64 ((two6 0 ((k : Int) + 1) 0 1 1 0).2.2.2.2)]) 0 HE43 HH44 tv_95 rfl rfl rfl rfl rfl rfl (by simp [Value.oneCell']) (wt0 rfl) fun w' HH47 => hK46 _ _ ?_
      refine wpList_nil ?_
      clear a_23 HE24 HH18 HH29 HH30 HH31 HH32 HH33 HH34 HH35 HH36 a_25 HE26 K_27 hK28 a_38 HE39 HH37 K_40 hK41 HH44 hK46 K_45
      refine nrm ?_
      refine wp_seq ?_
      refine rg ?_
      refine pl_x HE43 HH47 (wt0 rfl) (x_move rfl) rfl rfl fun a_48 HE49 => ?_
      refine pl_x HE49 HH47 (wt0 rfl) (x_move rfl) rfl rfl fun a_50 HE51 => ?_
      refine pl fun K_52 hK53 => ?_
      refine st_lit (m := 2) (cs := [.int .i64 (((k : Int) + 1)), .int .i64 (((k : Int) + 1))]) (e := 2) HE51 HH47 (run_lit ts_31 HE51 (vs := [.int .i64 (((k : Int) + 1)), .int .i64 (((k : Int) + 1))]) rfl rfl (by simp [Value.cells]) rfl (by decide)) (wt0 rfl) rfl rfl fun q33 a_54 w' HE55 HH56 => hK53 _ _ ?_
      refine pl_x HE55 HH56 (wt0 rfl) (x_fieldAddr fa_95_2 rfl) rfl rfl fun a_57 HE58 => ?_
      refine pl fun K_59 hK60 => ?_
      refine st_store (vs := [.slice (some ⟨q33, 0, none⟩) (2) 2]) 1 HE58 HH56 tv_31 rfl rfl rfl rfl rfl rfl (by simp [Value.oneCell']) (wt0 rfl) fun w' HH61 => hK60 _ _ ?_
      refine wpList_nil ?_
      clear a_42 HE43 a_48 HE49 a_50 HE51 HH47 a_54 HE55 K_52 hK53 HH56 hK60 K_59
      refine nrm ?_
      refine rg ?_
      refine pl_x HE58 HH61 (wt0 rfl) (x_move rfl) rfl rfl fun a_62 HE63 => ?_
      refine pl_x HE63 HH61 (wt0 rfl) (x_loadN (cs := [.int .i64 ((two6 0 ((k : Int) + 1) 0 1 1 0).1), .slice Ar25_0_1 ((two6 0 ((k : Int) + 1) 0 1 1 0).2.1.length) cr25_0_1, .slice (some ⟨q33, 0, none⟩) (2) 2, .slice Ar25_0_3 ((two6 0 ((k : Int) + 1) 0 1 1 0).2.2.2.1.length) cr25_0_3, .int .i64 ((two6 0 ((k : Int) + 1) 0 1 1 0).2.2.2.2)]) tv_95 rfl rfl (c_blkN 1 rfl)) rfl rfl fun a_64 HE65 => ?_
      refine pl fun K_66 hK67 => ?_
      refine st_lit (m := 1) (cs := [.int .i64 ((two6 0 ((k : Int) + 1) 0 1 1 0).1), .slice Ar25_0_1 ((two6 0 ((k : Int) + 1) 0 1 1 0).2.1.length) cr25_0_1, .slice (some ⟨q33, 0, none⟩) (2) 2, .slice Ar25_0_3 ((two6 0 ((k : Int) + 1) 0 1 1 0).2.2.2.1.length) cr25_0_3, .int .i64 ((two6 0 ((k : Int) + 1) 0 1 1 0).2.2.2.2)]) (e := 95) HE65 HH61 (run_lit ts_22 HE65 (vs := [.agg #[.int .i64 ((two6 0 ((k : Int) + 1) 0 1 1 0).1), .slice Ar25_0_1 ((two6 0 ((k : Int) + 1) 0 1 1 0).2.1.length) cr25_0_1, .slice (some ⟨q33, 0, none⟩) (2) 2, .slice Ar25_0_3 ((two6 0 ((k : Int) + 1) 0 1 1 0).2.2.2.1.length) cr25_0_3, .int .i64 ((two6 0 ((k : Int) + 1) 0 1 1 0).2.2.2.2)]]) rfl rfl (by simp [Value.cells]) rfl (by decide)) (wt0 rfl) rfl rfl fun q34 a_68 w' HE69 HH70 => hK67 _ _ ?_
      refine pl fun K_71 hK72 => ?_
      have HH73 := HH70.sel [1, 0, 2, 3, 4, 5, 6] (by decide) rfl
      have HH74 := Held.vecFlat (E := eInt) (xs := [((k : Int) + 1), ((k : Int) + 1)]) (css := [[.int .i64 (((k : Int) + 1))], [.int .i64 (((k : Int) + 1))]]) HH73 rfl (by unfold maxLen; simp) (fun i x hx => by match i with | 0 => exact ⟨_, rfl, fun _ => by simp at hx; subst hx; exact (oI (by exact ⟨by omega, by omega⟩))⟩ | 1 => exact ⟨_, rfl, fun _ => by simp at hx; subst hx; exact (oI (by exact ⟨by omega, by omega⟩))⟩ | i + 2 => simp at hx)
      have HH75 := HH74.vecSo
      have HH76 := HH75.relen (n := 2) (by first | exact mkL_len _ _ _ _ | (simp; done) | (simp; omega))
      have HH77 := HH76.sel [5, 0, 3, 1, 2, 4, 6] (by decide) rfl
      have HH78 := HH77.sel [2, 0, 1, 3, 4, 5, 6] (by decide) rfl
      have HH79 := HH78.pairB (F := eInt) (c2 := [.int .i64 ((two6 0 ((k : Int) + 1) 0 1 1 0).2.2.2.2)]) (y := (two6 0 ((k : Int) + 1) 0 1 1 0).2.2.2.2) (oI (by exact ⟨by omega, by omega⟩))
      have HH80 := HH79.sel [2, 0, 1, 3, 4, 5, 6] (by decide) rfl
      have HH81 := HH80.pair
      have HH82 := HH81.sel [1, 0, 2, 3, 4, 5] (by decide) rfl
      have HH83 := HH82.pair
      have HH84 := HH83.pairF (E := eInt) (c1 := [.int .i64 ((two6 0 ((k : Int) + 1) 0 1 1 0).1)]) (x := (two6 0 ((k : Int) + 1) 0 1 1 0).1) (oI (by exact ⟨by omega, by omega⟩))
      obtain ⟨S38, HH85⟩ : ∃ S, Held Nob w (rO eMultiRule S [.int .i64 ((two6 0 ((k : Int) + 1) 0 1 1 0).1), .slice Ar25_0_1 ((two6 0 ((k : Int) + 1) 0 1 1 0).2.1.length) cr25_0_1, .slice (some ⟨q33, 0, none⟩) (2) 2, .slice Ar25_0_3 ((two6 0 ((k : Int) + 1) 0 1 1 0).2.2.2.1.length) cr25_0_3, .int .i64 ((two6 0 ((k : Int) + 1) 0 1 1 0).2.2.2.2)] ((two6 0 ((k : Int) + 1) 0 1 1 0).1, (two6 0 ((k : Int) + 1) 0 1 1 0).2.1, ([((k : Int) + 1), ((k : Int) + 1)] : List Int), (two6 0 ((k : Int) + 1) 0 1 1 0).2.2.2.1, (two6 0 ((k : Int) + 1) 0 1 1 0).2.2.2.2) :: _) _ := ⟨_, HH84⟩
      refine st_app1 HE69 HH85 ts_22 [4, 0, 1, 2, 3] (by decide) rfl rfl rfl (by simp [Value.oneCell']) (by unfold maxLen; first | omega | (simp; done) | (simp; omega)) (by first | omega | (simp; done) | (simp; omega)) (wt0 rfl) rfl fun A35 c36 S37 a_86 w' HE87 HH88 => hK72 _ _ ?_
      refine pl_x HE87 HH88 (wt0 rfl) (x_assign rfl) rfl rfl fun a_89 HE90 => ?_
      refine wpList_nil ?_
      clear a_57 HE58 a_62 HE63 a_64 HE65 HH61 K_66 hK67 HH70 HH73 HH74 HH75 HH76 HH77 HH78 HH79 HH80 HH81 HH82 HH83 HH84 a_68 HE69 HH85 a_86 HE87 hK72 K_71
      refine blk_n ?_
      refine nrm ?_
      refine rg ?_
      refine pl_x HE90 HH88 (wt0 rfl) (x_move rfl) rfl rfl fun a_91 HE92 => ?_
      refine pl_x HE92 HH88 (wt0 rfl) (x_add rfl rfl (by exact ⟨by omega, by omega⟩)) rfl rfl fun a_93 HE94 => ?_
      refine pl_x HE94 HH88 (wt0 rfl) (x_assign rfl) rfl rfl fun a_95 HE96 => ?_
      refine wpList_nil ?_
      clear a_89 HE90 a_91 HE92 a_93 HE94
      have E39 : copyTo (k + 1) = (copyTo k ++ [((two6 0 ((k : Int) + 1) 0 1 1 0).1, (two6 0 ((k : Int) + 1) 0 1 1 0).2.1, ([((k : Int) + 1), ((k : Int) + 1)] : List Int), (two6 0 ((k : Int) + 1) 0 1 1 0).2.2.2.1, (two6 0 ((k : Int) + 1) 0 1 1 0).2.2.2.2)]) := by
        exact copyTo_succ k
      exact nrm ⟨(a0 - ((k + 1) : Int)).toNat, (by omega), k + 1, A35, c36, S37, rfl, HE96.sub ⟨(by rw [E39]; rfl), (lkI rfl (by first | rfl | omega | (simp [p23_0, hc24]; done))), rfl, trivial⟩, ((HH88.sel [0] (by decide) rfl).to (by first | rfl | (rw [E39]; done) | (rw [E39]; rfl) | (simp only [E39]; done) | (simp only [E39]; rfl))), (by first | omega | assumption | (simp; done) | simp_all)⟩
    · refine wp_exit ?_
      refine (thn_exit (thn_exit (blk_hit ?_)))
      refine nrm ?_
      refine wp_seq ?_
      refine rg ?_
      refine pl_x HE24 HH18 (wt0 rfl) (x_move rfl) rfl rfl fun a_97 HE98 => ?_
      refine pl_x HE98 HH18 (wt0 rfl) (x_assign rfl) rfl rfl fun a_99 HE100 => ?_
      refine wpList_nil ?_
      clear a_23 HE24 a_97 HE98
      refine nrm ?_
      refine wp_ret ?_
      refine ret1 HE100 rfl (rv_tmp rfl) ?_
      have hF : (copyRls a0) = copyTo k := by
        unfold copyRls; rw [show (a0 - 1).toNat = k from by omega]
      exact ⟨_, _, _, by rw [hF] <;> rfl, by rw [hF]; exact HH18.sel [0] (by decide) rfl⟩

set_option maxRecDepth 100000 in
set_option maxHeartbeats 4000000 in
theorem impl_CopyMulti (a0 : Int) (w : World)  :
    Calls Try.prog 16 #[.int .i64 a0] w fun e w' => ∃ (es0' : List Value), e = .returned (.tuple #[.agg es0'.toArray, .int .i64 (copyMulti a0).2]) ∧ eMulti.O w' (Fr w w') es0' (copyMulti a0).1 ∧ Below w.heap.size w w' := by
  have HH1 := Held.start Nob w
  refine enter (n := 12) Try.func16 rfl rfl rfl fun a_2 HE3 => ?_
  refine wp_seq ?_
  refine rg ?_
  refine pl fun K_4 hK5 => ?_
  refine st_alloc HE3 HH1 tv_24 (wt0 rfl) rfl fun q21 a_6 w' HE7 HH8 => hK5 _ _ ?_
  refine pl_x HE7 HH8 (wt0 rfl) (x_assign rfl) rfl rfl fun a_9 HE10 => ?_
  refine wpList_nil ?_
  clear a_2 HE3 HH1 a_6 HE7 hK5 K_4
  refine nrm ?_
  refine wp_seq ?_
  refine wp_seq ?_
  refine rg ?_
  refine pl_x HE10 HH8 (wt0 rfl) (x_move rfl) rfl rfl fun a_11 HE12 => ?_
  refine pl fun K_13 hK14 => ?_
  refine st_call HE12 (wt0 rfl) rfl rfl rfl en_69 rfl rfl (impl_within a0 2 3 _ ) fun e w' hr => ?_
  obtain ⟨rfl, rfl⟩ := hr
  refine ⟨_, rfl, fun a_15 HE16 => hK14 _ _ ?_⟩
  refine pl_x HE16 HH8 (wt0 rfl) (x_not rfl) rfl rfl fun a_17 HE18 => ?_
  refine wpList_nil ?_
  clear a_9 HE10 a_11 HE12 a_15 HE16 hK14 K_13
  refine nrm ?_
  refine cnd_nb HE18 rfl (fun hc23 => ?_) (fun hc23 => ?_)
  · refine wp_seq ?_
    refine rg ?_
    refine pl_x HE18 HH8 (wt0 rfl) (show XS _ _ _ _ (.agg #[.int .i64 (0), .int .i64 (0), .int .i64 (0), .slice none (0) 0]) from x_build (vs := []) tb_24 rfl (by simp [Value.oneCell'])) rfl rfl fun a_19 HE20 => ?_
    refine pl fun K_21 hK22 => ?_
    refine st_store (vs := [.int .i64 (0), .int .i64 (0), .int .i64 (0), .slice none (0) 0]) 0 HE20 HH8 tv_24 rfl rfl rfl rfl rfl rfl (by simp [Value.oneCell']) (wt0 rfl) fun w' HH23 => hK22 _ _ ?_
    refine pl_x HE20 HH23 (wt0 rfl) (x_assign rfl) rfl rfl fun a_24 HE25 => ?_
    refine wpList_nil ?_
    clear a_17 HE18 HH8 a_19 HE20 hK22 K_21
    refine nrm ?_
    refine wp_ret ?_
    refine (thn_ret ?_)
    refine ret2 HE25 rfl (rv_cell rfl (tv_24.loadN (cs := [.int .i64 (0), .int .i64 (0), .int .i64 (0), .slice none (0) 0]) rfl (c_blkN 0 rfl _ HH23))) (rv_tmp rfl) ?_
    have HH26 := HH23.flatO (E := eMulti) (cs := [.int .i64 (0), .int .i64 (0), .int .i64 (0), .slice none (0) 0]) (x := (0, 0, 0, [])) (fun _ => (oPrN (oI (by exact ⟨by omega, by omega⟩)) (oPrN (oI (by exact ⟨by omega, by omega⟩)) (oPrN (oI (by exact ⟨by omega, by omega⟩)) (oSl (So.nil (Nat.zero_le _)))))))
    have hF : (copyMulti a0) = ((0, 0, 0, []), 2) := by
      first | (simp [copyMulti, hc23]; done) | (unfold copyMulti; grind)
    exact ⟨_, by rw [hF] <;> rfl, by rw [hF]; exact (HH26.o (i := 0) rfl), HH26.below⟩
  · have v0 := withinB_true.1 hc23
    refine wp_skip ?_
    refine nrm ?_
    refine wp_seq ?_
    refine rg ?_
    refine pl_x HE18 HH8 (wt0 rfl) (x_move rfl) rfl rfl fun a_27 HE28 => ?_
    refine pl_x HE28 HH8 (wt0 rfl) (x_move rfl) rfl rfl fun a_29 HE30 => ?_
    refine pl fun K_31 hK32 => ?_
    refine st_call HE30 (wt0 rfl) rfl rfl rfl en_70 rfl rfl (impl_copyRules a0 _ (by omega)) fun e w' hr => ?_
    obtain ⟨Ar24_0, cr24_0, Sr24_0, rfl, hbr24⟩ := hr
    have HH33 := HH8.app hbr24
    clear hbr24
    have HH34 : Held Nob w ([rVec eMultiRule 95 Sr24_0 Ar24_0 cr24_0 (copyRls a0), rBlk q21 24 [.int .i64 (0), .int .i64 (0), .int .i64 (0), .slice none (0) 0]]) _ := HH33
    refine ⟨_, rfl, fun a_35 HE36 => hK32 _ _ ?_⟩
    refine pl_x HE36 HH34 (wt0 rfl) (show XS _ _ _ _ (.agg #[.int .i64 (2), .int .i64 (a0), .int .i64 (1), .slice Ar24_0 ((copyRls a0).length) cr24_0]) from x_build (vs := [(0, .int .i64 (2)), (1, .int .i64 (a0)), (2, .int .i64 (1)), (3, .slice Ar24_0 ((copyRls a0).length) cr24_0)]) tb_24 rfl (by simp [Value.oneCell'])) rfl rfl fun a_37 HE38 => ?_
    refine pl fun K_39 hK40 => ?_
    refine st_store (vs := [.int .i64 (2), .int .i64 (a0), .int .i64 (1), .slice Ar24_0 ((copyRls a0).length) cr24_0]) 1 HE38 HH34 tv_24 rfl rfl rfl rfl rfl rfl (by simp [Value.oneCell']) (wt0 rfl) fun w' HH41 => hK40 _ _ ?_
    refine pl_x HE38 HH41 (wt0 rfl) (x_assign rfl) rfl rfl fun a_42 HE43 => ?_
    refine wpList_nil ?_
    clear a_17 HE18 a_27 HE28 HH8 HH33 a_29 HE30 a_35 HE36 K_31 hK32 HH34 a_37 HE38 hK40 K_39
    refine nrm ?_
    refine wp_ret ?_
    refine ret2 HE43 rfl (rv_cell rfl (tv_24.loadN (cs := [.int .i64 (2), .int .i64 (a0), .int .i64 (1), .slice Ar24_0 ((copyRls a0).length) cr24_0]) rfl (c_blkN 1 rfl _ HH41))) (rv_tmp rfl) ?_
    have HH44 := HH41.vecSo
    have HH45 := HH44.pairF (E := eInt) (c1 := [.int .i64 (1)]) (x := 1) (oI (by exact ⟨by omega, by omega⟩))
    have HH46 := HH45.pairF (E := eInt) (c1 := [.int .i64 (a0)]) (x := a0) (oI (by exact ⟨by omega, by omega⟩))
    have HH47 := HH46.pairF (E := eInt) (c1 := [.int .i64 (2)]) (x := 2) (oI (by exact ⟨by omega, by omega⟩))
    obtain ⟨S25, HH48⟩ : ∃ S, Held Nob w (rO eMulti S [.int .i64 (2), .int .i64 (a0), .int .i64 (1), .slice Ar24_0 ((copyRls a0).length) cr24_0] (2, a0, 1, (copyRls a0)) :: _) _ := ⟨_, HH47⟩
    have hF : (copyMulti a0) = ((2, a0, 1, (copyRls a0)), 0) := by
      first | (simp [copyMulti, hc23]; done) | (unfold copyMulti; grind)
    exact ⟨_, by rw [hF] <;> rfl, by rw [hF]; exact (HH48.o (i := 0) rfl), HH48.below⟩

set_option maxRecDepth 100000 in
set_option maxHeartbeats 4000000 in
theorem spec_CopyMulti (a0 : Int) (w : World)  :
    Calls Try.prog 15 #[.int .i64 a0] w fun e w' => ∃ (es0' : List Value), e = .returned (.tuple #[.agg es0'.toArray, .int .i64 (copyMulti a0).2]) ∧ eMulti.O w' (Fr w w') es0' (copyMulti a0).1 ∧ Below w.heap.size w w' := by
  have HH1 := Held.start Nob w
  refine enter (n := 26) Try.func15 rfl rfl rfl fun a_2 HE3 => ?_
  refine wp_seq ?_
  refine rg ?_
  refine pl fun K_4 hK5 => ?_
  refine st_alloc HE3 HH1 tv_24 (wt0 rfl) rfl fun q21 a_6 w' HE7 HH8 => hK5 _ _ ?_
  refine pl_x HE7 HH8 (wt0 rfl) (x_assign rfl) rfl rfl fun a_9 HE10 => ?_
  refine wpList_nil ?_
  clear a_2 HE3 HH1 a_6 HE7 hK5 K_4
  refine nrm ?_
  refine wp_seq ?_
  refine wp_seq ?_
  refine rg ?_
  refine pl_x HE10 HH8 (wt0 rfl) (x_move rfl) rfl rfl fun a_11 HE12 => ?_
  refine pl fun K_13 hK14 => ?_
  refine st_call HE12 (wt0 rfl) rfl rfl rfl en_67 rfl rfl (spec_l00In a0 2 3 _ ) fun e w' hr => ?_
  obtain ⟨rfl, rfl⟩ := hr
  refine ⟨_, rfl, fun a_15 HE16 => hK14 _ _ ?_⟩
  refine pl_x HE16 HH8 (wt0 rfl) (x_not rfl) rfl rfl fun a_17 HE18 => ?_
  refine wpList_nil ?_
  clear a_9 HE10 a_11 HE12 a_15 HE16 hK14 K_13
  refine nrm ?_
  refine cnd_nb HE18 rfl (fun hc23 => ?_) (fun hc23 => ?_)
  · refine wp_seq ?_
    refine rg ?_
    refine pl_x HE18 HH8 (wt0 rfl) (show XS _ _ _ _ (.agg #[.int .i64 (0), .int .i64 (0), .int .i64 (0), .slice none (0) 0]) from x_build (vs := []) tb_24 rfl (by simp [Value.oneCell'])) rfl rfl fun a_19 HE20 => ?_
    refine pl fun K_21 hK22 => ?_
    refine st_store (vs := [.int .i64 (0), .int .i64 (0), .int .i64 (0), .slice none (0) 0]) 0 HE20 HH8 tv_24 rfl rfl rfl rfl rfl rfl (by simp [Value.oneCell']) (wt0 rfl) fun w' HH23 => hK22 _ _ ?_
    refine pl_x HE20 HH23 (wt0 rfl) (x_assign rfl) rfl rfl fun a_24 HE25 => ?_
    refine wpList_nil ?_
    clear a_17 HE18 HH8 a_19 HE20 hK22 K_21
    refine nrm ?_
    refine wp_ret ?_
    refine (thn_ret ?_)
    refine ret2 HE25 rfl (rv_cell rfl (tv_24.loadN (cs := [.int .i64 (0), .int .i64 (0), .int .i64 (0), .slice none (0) 0]) rfl (c_blkN 0 rfl _ HH23))) (rv_tmp rfl) ?_
    have HH26 := HH23.flatO (E := eMulti) (cs := [.int .i64 (0), .int .i64 (0), .int .i64 (0), .slice none (0) 0]) (x := (0, 0, 0, [])) (fun _ => (oPrN (oI (by exact ⟨by omega, by omega⟩)) (oPrN (oI (by exact ⟨by omega, by omega⟩)) (oPrN (oI (by exact ⟨by omega, by omega⟩)) (oSl (So.nil (Nat.zero_le _)))))))
    have hF : (copyMulti a0) = ((0, 0, 0, []), 2) := by
      first | (simp [copyMulti, hc23]; done) | (unfold copyMulti copyRls; rw [show (a0 - 1).toNat = k from by omega, if_pos ‹_›])
    exact ⟨_, by rw [hF] <;> rfl, by rw [hF]; exact (HH26.o (i := 0) rfl), HH26.below⟩
  · have v0 := withinB_true.1 hc23
    refine wp_skip ?_
    refine nrm ?_
    refine wp_seq ?_
    refine rg ?_
    refine pl_x HE18 HH8 (wt0 rfl) (x_move rfl) rfl rfl fun a_27 HE28 => ?_
    refine pl_x HE28 HH8 (wt0 rfl) (show XS _ _ _ _ (.agg #[.int .i64 (2), .int .i64 (a0), .int .i64 (1), .slice none (0) 0]) from x_build (vs := [(0, .int .i64 (2)), (1, .int .i64 (a0)), (2, .int .i64 (1))]) tb_24 rfl (by simp [Value.oneCell'])) rfl rfl fun a_29 HE30 => ?_
    refine pl fun K_31 hK32 => ?_
    refine st_alloc HE30 HH8 tv_24 (wt0 rfl) rfl fun q24 a_33 w' HE34 HH35 => hK32 _ _ ?_
    refine pl fun K_36 hK37 => ?_
    refine st_store (vs := [.int .i64 (2), .int .i64 (a0), .int .i64 (1), .slice none (0) 0]) 0 HE34 HH35 tv_24 rfl rfl rfl rfl rfl rfl (by simp [Value.oneCell']) (wt0 rfl) fun w' HH38 => hK37 _ _ ?_
    refine wpList_nil ?_
    clear a_17 HE18 a_27 HE28 a_29 HE30 HH8 K_31 hK32 HH35 hK37 K_36
    refine nrm ?_
    refine wp_seq ?_
    refine wp_seq ?_
    refine rg ?_
    refine pl_x HE34 HH38 (wt0 rfl) (x_assign rfl) rfl rfl fun a_39 HE40 => ?_
    refine wpList_nil ?_
    clear a_33 HE34
    refine nrm ?_
    refine wp_block ?_
    have HH41 := HH38.vecNil eMultiRule 95
    refine lp (fun m a w' => ∃ (k : Nat) (A_4_3 : Option Addr) (c_4_3 : Nat) (S_4_3 : Nat → Prop), m = (a0 - (k : Int)).toNat ∧ Env 26 [(5, .int .i64 ((k : Int) + 1)), (0, .int .i64 (a0)), (2, .pointer (some ⟨q21, 0, none⟩)), (4, .pointer (some ⟨q24, 0, none⟩))] a ∧ Held Nob w [rVec eMultiRule 95 S_4_3 A_4_3 c_4_3 (copyTo k), rBlk q24 24 [.int .i64 2, .int .i64 a0, .int .i64 1, .slice A_4_3 (List.length (copyTo k)) c_4_3], rBlk q21 24 [.int .i64 (0), .int .i64 (0), .int .i64 (0), .slice none (0) 0]] w' ∧ ((k : Int) + 1 ≤ a0)) ((a0 - ((0) : Int)).toNat) ?_ ?_
    · have E25 : copyTo 0 = [] := by
        first | rfl | simp
      exact ⟨0, none, 0, Nob, rfl, HE40.sub ⟨(lkI rfl (by first | rfl | omega | (simp [hc23]; done))), rfl, rfl, rfl, trivial⟩, ((HH41.sel [0, 1, 2] (by decide) rfl).to (by first | rfl | (rw [E25]; done) | (rw [E25]; rfl) | (simp only [E25]; done) | (simp only [E25]; rfl))), (by first | omega | assumption | (simp; done) | simp_all)⟩
    · rintro m a_42 w' ⟨k, A_4_3, c_4_3, S_4_3, rfl, HE43, HH44, p26_0⟩
      have ol := copyTo_len k
      refine wp_seq ?_
      refine wp_seq ?_
      refine rg ?_
      refine pl_x HE43 HH44 (wt0 rfl) (x_move rfl) rfl rfl fun a_45 HE46 => ?_
      refine pl_x HE46 HH44 (wt0 rfl) (x_move rfl) rfl rfl fun a_47 HE48 => ?_
      refine pl_x HE48 HH44 (wt0 rfl) (x_lss rfl rfl) rfl rfl fun a_49 HE50 => ?_
      refine wpList_nil ?_
      clear HH38 a_39 HE40 HH41 a_42 HE43 a_45 HE46 a_47 HE48
      refine nrm ?_
      refine cnd_d HE50 rfl (fun hc27 => ?_) (fun hc27 => ?_)
      · refine wp_skip ?_
        refine nrm ?_
        refine wp_seq ?_
        refine wp_block ?_
        refine dr_start (Held Nob w [rBlk q21 24 [.int .i64 (0), .int .i64 (0), .int .i64 (0), .slice none (0) 0]]) 9 #[false, false, false, false, false, false, false, false, false] hmix rfl rfl HH44 (fun _ h => h.sel [2] (by decide) rfl) fun w' HH51 => ?_
        have HS52 := HH51.sel [2] (by decide) rfl
        refine dr_take (i := 0) (ls' := #[true, false, false, false, false, false, false, false, false]) HE50 HS52 rfl (by kernel_rfl) (by kernel_rfl) (by kernel_rfl) (fun _ _ _ h => h) rfl (wt0 rfl) (x_fieldAddr fa_24_3 rfl) rfl rfl fun a_53 HE54 => ?_
        refine dr_take (i := 2) (ls' := #[true, false, true, false, false, false, false, false, false]) HE54 HS52 rfl (by kernel_rfl) (by kernel_rfl) (by kernel_rfl) (fun _ _ _ h => h) rfl (wt0 rfl) (x_move rfl) rfl rfl fun a_55 HE56 => ?_
        refine dr_take (i := 3) (ls' := #[true, false, true, true, false, false, false, false, false]) HE56 HS52 rfl (by kernel_rfl) (by kernel_rfl) (by kernel_rfl) (fun _ _ _ h => h) rfl (wt0 rfl) (x_move rfl) rfl rfl fun a_57 HE58 => ?_
        refine dr_two (i := 1) (j := 4) (ls' := #[true, true, true, true, false, false, false, false, false]) (ls'' := #[true, false, true, true, true, false, false, false, false]) rfl rfl (by kernel_rfl) rfl rfl (fun K_59 hK60 => ?_) (fun K_59 hK60 => ?_)
        · refine st_x HE58 HH51 (wt0 rfl) (x_load1 tv_22 rfl (c_blk 1 rfl rfl)) rfl rfl fun a_61 HE62 => hK60 _ _ HS52 ?_
          refine dr_one (i := 4) (ls' := #[true, true, true, true, true, false, false, false, false]) rfl (by kernel_rfl) rfl fun K_63 hK64 => ?_
          refine st_call HE62 (wt0 rfl) rfl rfl rfl en_68 rfl rfl (spec_l06Make 0 ((k : Int) + 1) 0 ((k : Int) + 1) 1 1 0 _ (by omega) (by omega) (by omega) (by omega) (by omega) (by omega) (by omega)) fun e w' hr => ?_
          obtain ⟨esr28_0, rfl, hor28_0, hbr28⟩ := hr
          have hr := eMultiRule.read hor28_0
          obtain ⟨Sr28, HH65⟩ := HH51.newO hbr28 hor28_0
          obtain ⟨Ar28_0_1, cr28_0_1, Ar28_0_2, cr28_0_2, Ar28_0_3, cr28_0_3, rfl, gr28_0_0, gr28_0_1, gr28_0_2, gr28_0_3, gr28_0_4⟩ := shape_MultiRule hr
          have jr28_0_0 := gr28_0_0; unfold I64 at jr28_0_0
          have jr28_0_4 := gr28_0_4; unfold I64 at jr28_0_4
          have HH66 := HH65.unF rfl
          obtain ⟨S29, S30, HH67⟩ := HH66.unP rfl
          have HH68 := HH67.sel [1, 0, 2, 3, 4] (by decide) rfl
          obtain ⟨S31, S32, HH69⟩ := HH68.unP rfl
          have HH70 := HH69.sel [1, 0, 2, 3, 4, 5] (by decide) rfl
          obtain ⟨S33, S34, HH71⟩ := HH70.unP rfl
          have HH72 := HH71.sel [1, 0, 2, 3, 4, 5, 6] (by decide) rfl
          have HH73 := HH72.sel [1, 2, 3, 4, 5, 6] (by decide) rfl
          refine ⟨_, rfl, fun a_74 HE75 => hK64 _ _ (by exact HH73.sel [5] (by decide) rfl) ?_⟩
          have HS76 := HH73.sel [5] (by decide) rfl
          refine dr_one (i := 5) (ls' := #[true, true, true, true, true, true, false, false, false]) rfl (by kernel_rfl) rfl fun K_77 hK78 => ?_
          refine st_lit (m := 1) (cs := [.int .i64 ((two7 0 ((k : Int) + 1) 0 ((k : Int) + 1) 1 1 0).1), .slice Ar28_0_1 ((two7 0 ((k : Int) + 1) 0 ((k : Int) + 1) 1 1 0).2.1.length) cr28_0_1, .slice Ar28_0_2 ((two7 0 ((k : Int) + 1) 0 ((k : Int) + 1) 1 1 0).2.2.1.length) cr28_0_2, .slice Ar28_0_3 ((two7 0 ((k : Int) + 1) 0 ((k : Int) + 1) 1 1 0).2.2.2.1.length) cr28_0_3, .int .i64 ((two7 0 ((k : Int) + 1) 0 ((k : Int) + 1) 1 1 0).2.2.2.2)]) (e := 95) HE75 HH73 (run_lit ts_22 HE75 (vs := [.agg #[.int .i64 ((two7 0 ((k : Int) + 1) 0 ((k : Int) + 1) 1 1 0).1), .slice Ar28_0_1 ((two7 0 ((k : Int) + 1) 0 ((k : Int) + 1) 1 1 0).2.1.length) cr28_0_1, .slice Ar28_0_2 ((two7 0 ((k : Int) + 1) 0 ((k : Int) + 1) 1 1 0).2.2.1.length) cr28_0_2, .slice Ar28_0_3 ((two7 0 ((k : Int) + 1) 0 ((k : Int) + 1) 1 1 0).2.2.2.1.length) cr28_0_3, .int .i64 ((two7 0 ((k : Int) + 1) 0 ((k : Int) + 1) 1 1 0).2.2.2.2)]]) rfl rfl (by simp [Value.cells]) rfl (by decide)) (wt0 rfl) rfl rfl fun q35 a_79 w' HE80 HH81 => hK78 _ _ (by exact HH81.sel [6] (by decide) rfl) ?_
          have HS82 := HH81.sel [6] (by decide) rfl
          refine dr_one (i := 6) (ls' := #[true, true, true, true, true, true, true, false, false]) rfl (by kernel_rfl) rfl fun K_83 hK84 => ?_
          have HH85 := HH81.sel [3, 2, 1, 0, 4, 5, 6] (by decide) rfl
          have HH86 := HH85.sel [2, 0, 1, 3, 4, 5, 6] (by decide) rfl
          have HH87 := HH86.pairB (F := eInt) (c2 := [.int .i64 ((two7 0 ((k : Int) + 1) 0 ((k : Int) + 1) 1 1 0).2.2.2.2)]) (y := (two7 0 ((k : Int) + 1) 0 ((k : Int) + 1) 1 1 0).2.2.2.2) (oI (by exact ⟨by omega, by omega⟩))
          have HH88 := HH87.sel [2, 0, 1, 3, 4, 5, 6] (by decide) rfl
          have HH89 := HH88.pair
          have HH90 := HH89.sel [1, 0, 2, 3, 4, 5] (by decide) rfl
          have HH91 := HH90.pair
          have HH92 := HH91.pairF (E := eInt) (c1 := [.int .i64 ((two7 0 ((k : Int) + 1) 0 ((k : Int) + 1) 1 1 0).1)]) (x := (two7 0 ((k : Int) + 1) 0 ((k : Int) + 1) 1 1 0).1) (oI (by exact ⟨by omega, by omega⟩))
          obtain ⟨S39, HH93⟩ : ∃ S, Held Nob w (rO eMultiRule S [.int .i64 ((two7 0 ((k : Int) + 1) 0 ((k : Int) + 1) 1 1 0).1), .slice Ar28_0_1 ((two7 0 ((k : Int) + 1) 0 ((k : Int) + 1) 1 1 0).2.1.length) cr28_0_1, .slice Ar28_0_2 ((two7 0 ((k : Int) + 1) 0 ((k : Int) + 1) 1 1 0).2.2.1.length) cr28_0_2, .slice Ar28_0_3 ((two7 0 ((k : Int) + 1) 0 ((k : Int) + 1) 1 1 0).2.2.2.1.length) cr28_0_3, .int .i64 ((two7 0 ((k : Int) + 1) 0 ((k : Int) + 1) 1 1 0).2.2.2.2)] (two7 0 ((k : Int) + 1) 0 ((k : Int) + 1) 1 1 0) :: _) _ := ⟨_, HH92⟩
          refine st_app1 HE80 HH93 ts_22 [2, 0, 1, 3, 4] (by decide) rfl rfl rfl (by simp [Value.oneCell']) (by unfold maxLen; first | omega | (simp; done) | (simp; omega)) (by first | omega | (simp; done) | (simp; omega)) (wt0 rfl) rfl fun A36 c37 S38 a_94 w' HE95 HH96 => hK84 _ _ (by exact HH96.sel [3] (by decide) rfl) ?_
          have HS97 := HH96.sel [3] (by decide) rfl
          refine dr_take (i := 7) (ls' := #[true, true, true, true, true, true, true, true, false]) HE95 HS97 rfl (by kernel_rfl) (by kernel_rfl) (by kernel_rfl) (fun _ _ _ h => h) rfl (wt0 rfl) (x_fieldAddr fa_24_3 rfl) rfl rfl fun a_98 HE99 => ?_
          refine dr_one (i := 8) (ls' := #[true, true, true, true, true, true, true, true, true]) rfl (by kernel_rfl) rfl fun K_100 hK101 => ?_
          refine st_store (vs := [.slice A36 ((copyTo k ++ [(two7 0 ((k : Int) + 1) 0 ((k : Int) + 1) 1 1 0)]).length) c37]) 2 HE99 HH96 tv_22 rfl rfl rfl rfl rfl rfl (by simp [Value.oneCell']) (wt0 rfl) fun w' HH102 => hK101 _ _ (by exact HH102.sel [3] (by decide) rfl) ?_
          have HS103 := HH102.sel [3] (by decide) rfl
          refine dr_done (by kernel_rfl) ?_
          clear HH44 a_49 HE50 a_53 HE54 a_55 HE56 a_57 HE58 K_59 hK60 HH51 HH65 HH66 HH67 HH68 HH69 HH70 HH71 HH72 a_61 HE62 HS52 K_63 hK64 a_74 HE75 HH73 HS76 K_77 hK78 HH81 HH85 HH86 HH87 HH88 HH89 HH90 HH91 HH92 a_79 HE80 HH93 HS82 a_94 HE95 K_83 hK84 HH96 HS97 hK101 K_100
          refine blk_n ?_
          refine nrm ?_
          refine rg ?_
          refine pl_x HE99 HH102 (wt0 rfl) (x_move rfl) rfl rfl fun a_104 HE105 => ?_
          refine pl_x HE105 HH102 (wt0 rfl) (x_add rfl rfl (by exact ⟨by omega, by omega⟩)) rfl rfl fun a_106 HE107 => ?_
          refine pl_x HE107 HH102 (wt0 rfl) (x_assign rfl) rfl rfl fun a_108 HE109 => ?_
          refine wpList_nil ?_
          clear a_98 HE99 a_104 HE105 a_106 HE107
          have E40 : copyTo (k + 1) = (copyTo k ++ [(two7 0 ((k : Int) + 1) 0 ((k : Int) + 1) 1 1 0)]) := by
            exact copyTo_succ k
          exact nrm ⟨(a0 - ((k + 1) : Int)).toNat, (by omega), k + 1, A36, c37, S38, rfl, HE109.sub ⟨(lkI rfl (by first | rfl | omega | (simp [hc23, p26_0, hc27]; done))), rfl, rfl, rfl, trivial⟩, ((HH102.sel [0, 2, 3] (by decide) rfl).to (by first | rfl | (rw [E40]; done) | (rw [E40]; rfl) | (simp only [E40]; done) | (simp only [E40]; rfl))), (by first | omega | assumption | (simp; done) | simp_all)⟩
        · refine st_call HE58 (wt0 rfl) rfl rfl rfl en_68 rfl rfl (spec_l06Make 0 ((k : Int) + 1) 0 ((k : Int) + 1) 1 1 0 _ (by omega) (by omega) (by omega) (by omega) (by omega) (by omega) (by omega)) fun e w' hr => ?_
          obtain ⟨esr41_0, rfl, hor41_0, hbr41⟩ := hr
          have hr := eMultiRule.read hor41_0
          obtain ⟨Sr41, HH110⟩ := HH51.newO hbr41 hor41_0
          obtain ⟨Ar41_0_1, cr41_0_1, Ar41_0_2, cr41_0_2, Ar41_0_3, cr41_0_3, rfl, gr41_0_0, gr41_0_1, gr41_0_2, gr41_0_3, gr41_0_4⟩ := shape_MultiRule hr
          have jr41_0_0 := gr41_0_0; unfold I64 at jr41_0_0
          have jr41_0_4 := gr41_0_4; unfold I64 at jr41_0_4
          have HH111 := HH110.unF rfl
          obtain ⟨S42, S43, HH112⟩ := HH111.unP rfl
          have HH113 := HH112.sel [1, 0, 2, 3, 4] (by decide) rfl
          obtain ⟨S44, S45, HH114⟩ := HH113.unP rfl
          have HH115 := HH114.sel [1, 0, 2, 3, 4, 5] (by decide) rfl
          obtain ⟨S46, S47, HH116⟩ := HH115.unP rfl
          have HH117 := HH116.sel [1, 0, 2, 3, 4, 5, 6] (by decide) rfl
          have HH118 := HH117.sel [1, 2, 3, 4, 5, 6] (by decide) rfl
          refine ⟨_, rfl, fun a_119 HE120 => hK60 _ _ (by exact HH118.sel [5] (by decide) rfl) ?_⟩
          have HS121 := HH118.sel [5] (by decide) rfl
          refine dr_two (i := 1) (j := 5) (ls' := #[true, true, true, true, true, false, false, false, false]) (ls'' := #[true, false, true, true, true, true, false, false, false]) rfl rfl (by kernel_rfl) rfl rfl (fun K_122 hK123 => ?_) (fun K_122 hK123 => ?_)
          · refine st_x HE120 HH118 (wt0 rfl) (x_load1 tv_22 rfl (c_blk 4 rfl rfl)) rfl rfl fun a_124 HE125 => hK123 _ _ HS121 ?_
            refine dr_one (i := 5) (ls' := #[true, true, true, true, true, true, false, false, false]) rfl (by kernel_rfl) rfl fun K_126 hK127 => ?_
            refine st_lit (m := 1) (cs := [.int .i64 ((two7 0 ((k : Int) + 1) 0 ((k : Int) + 1) 1 1 0).1), .slice Ar41_0_1 ((two7 0 ((k : Int) + 1) 0 ((k : Int) + 1) 1 1 0).2.1.length) cr41_0_1, .slice Ar41_0_2 ((two7 0 ((k : Int) + 1) 0 ((k : Int) + 1) 1 1 0).2.2.1.length) cr41_0_2, .slice Ar41_0_3 ((two7 0 ((k : Int) + 1) 0 ((k : Int) + 1) 1 1 0).2.2.2.1.length) cr41_0_3, .int .i64 ((two7 0 ((k : Int) + 1) 0 ((k : Int) + 1) 1 1 0).2.2.2.2)]) (e := 95) HE125 HH118 (run_lit ts_22 HE125 (vs := [.agg #[.int .i64 ((two7 0 ((k : Int) + 1) 0 ((k : Int) + 1) 1 1 0).1), .slice Ar41_0_1 ((two7 0 ((k : Int) + 1) 0 ((k : Int) + 1) 1 1 0).2.1.length) cr41_0_1, .slice Ar41_0_2 ((two7 0 ((k : Int) + 1) 0 ((k : Int) + 1) 1 1 0).2.2.1.length) cr41_0_2, .slice Ar41_0_3 ((two7 0 ((k : Int) + 1) 0 ((k : Int) + 1) 1 1 0).2.2.2.1.length) cr41_0_3, .int .i64 ((two7 0 ((k : Int) + 1) 0 ((k : Int) + 1) 1 1 0).2.2.2.2)]]) rfl rfl (by simp [Value.cells]) rfl (by decide)) (wt0 rfl) rfl rfl fun q48 a_128 w' HE129 HH130 => hK127 _ _ (by exact HH130.sel [6] (by decide) rfl) ?_
            have HS131 := HH130.sel [6] (by decide) rfl
            refine dr_one (i := 6) (ls' := #[true, true, true, true, true, true, true, false, false]) rfl (by kernel_rfl) rfl fun K_132 hK133 => ?_
            have HH134 := HH130.sel [3, 2, 1, 0, 4, 5, 6] (by decide) rfl
            have HH135 := HH134.sel [2, 0, 1, 3, 4, 5, 6] (by decide) rfl
            have HH136 := HH135.pairB (F := eInt) (c2 := [.int .i64 ((two7 0 ((k : Int) + 1) 0 ((k : Int) + 1) 1 1 0).2.2.2.2)]) (y := (two7 0 ((k : Int) + 1) 0 ((k : Int) + 1) 1 1 0).2.2.2.2) (oI (by exact ⟨by omega, by omega⟩))
            have HH137 := HH136.sel [2, 0, 1, 3, 4, 5, 6] (by decide) rfl
            have HH138 := HH137.pair
            have HH139 := HH138.sel [1, 0, 2, 3, 4, 5] (by decide) rfl
            have HH140 := HH139.pair
            have HH141 := HH140.pairF (E := eInt) (c1 := [.int .i64 ((two7 0 ((k : Int) + 1) 0 ((k : Int) + 1) 1 1 0).1)]) (x := (two7 0 ((k : Int) + 1) 0 ((k : Int) + 1) 1 1 0).1) (oI (by exact ⟨by omega, by omega⟩))
            obtain ⟨S52, HH142⟩ : ∃ S, Held Nob w (rO eMultiRule S [.int .i64 ((two7 0 ((k : Int) + 1) 0 ((k : Int) + 1) 1 1 0).1), .slice Ar41_0_1 ((two7 0 ((k : Int) + 1) 0 ((k : Int) + 1) 1 1 0).2.1.length) cr41_0_1, .slice Ar41_0_2 ((two7 0 ((k : Int) + 1) 0 ((k : Int) + 1) 1 1 0).2.2.1.length) cr41_0_2, .slice Ar41_0_3 ((two7 0 ((k : Int) + 1) 0 ((k : Int) + 1) 1 1 0).2.2.2.1.length) cr41_0_3, .int .i64 ((two7 0 ((k : Int) + 1) 0 ((k : Int) + 1) 1 1 0).2.2.2.2)] (two7 0 ((k : Int) + 1) 0 ((k : Int) + 1) 1 1 0) :: _) _ := ⟨_, HH141⟩
            refine st_app1 HE129 HH142 ts_22 [2, 0, 1, 3, 4] (by decide) rfl rfl rfl (by simp [Value.oneCell']) (by unfold maxLen; first | omega | (simp; done) | (simp; omega)) (by first | omega | (simp; done) | (simp; omega)) (wt0 rfl) rfl fun A49 c50 S51 a_143 w' HE144 HH145 => hK133 _ _ (by exact HH145.sel [3] (by decide) rfl) ?_
            have HS146 := HH145.sel [3] (by decide) rfl
            refine dr_take (i := 7) (ls' := #[true, true, true, true, true, true, true, true, false]) HE144 HS146 rfl (by kernel_rfl) (by kernel_rfl) (by kernel_rfl) (fun _ _ _ h => h) rfl (wt0 rfl) (x_fieldAddr fa_24_3 rfl) rfl rfl fun a_147 HE148 => ?_
            refine dr_one (i := 8) (ls' := #[true, true, true, true, true, true, true, true, true]) rfl (by kernel_rfl) rfl fun K_149 hK150 => ?_
            refine st_store (vs := [.slice A49 ((copyTo k ++ [(two7 0 ((k : Int) + 1) 0 ((k : Int) + 1) 1 1 0)]).length) c50]) 2 HE148 HH145 tv_22 rfl rfl rfl rfl rfl rfl (by simp [Value.oneCell']) (wt0 rfl) fun w' HH151 => hK150 _ _ (by exact HH151.sel [3] (by decide) rfl) ?_
            have HS152 := HH151.sel [3] (by decide) rfl
            refine dr_done (by kernel_rfl) ?_
            clear HH44 a_49 HE50 a_53 HE54 a_55 HE56 HH51 HH110 HH111 HH112 HH113 HH114 HH115 HH116 HH117 a_57 HE58 HS52 K_59 hK60 a_119 HE120 K_122 hK123 a_124 HE125 HH118 HS121 K_126 hK127 HH130 HH134 HH135 HH136 HH137 HH138 HH139 HH140 HH141 a_128 HE129 HH142 HS131 a_143 HE144 K_132 hK133 HH145 HS146 hK150 K_149
            refine blk_n ?_
            refine nrm ?_
            refine rg ?_
            refine pl_x HE148 HH151 (wt0 rfl) (x_move rfl) rfl rfl fun a_153 HE154 => ?_
            refine pl_x HE154 HH151 (wt0 rfl) (x_add rfl rfl (by exact ⟨by omega, by omega⟩)) rfl rfl fun a_155 HE156 => ?_
            refine pl_x HE156 HH151 (wt0 rfl) (x_assign rfl) rfl rfl fun a_157 HE158 => ?_
            refine wpList_nil ?_
            clear a_147 HE148 a_153 HE154 a_155 HE156
            have E53 : copyTo (k + 1) = (copyTo k ++ [(two7 0 ((k : Int) + 1) 0 ((k : Int) + 1) 1 1 0)]) := by
              exact copyTo_succ k
            exact nrm ⟨(a0 - ((k + 1) : Int)).toNat, (by omega), k + 1, A49, c50, S51, rfl, HE158.sub ⟨(lkI rfl (by first | rfl | omega | (simp [hc23, p26_0, hc27]; done))), rfl, rfl, rfl, trivial⟩, ((HH151.sel [0, 2, 3] (by decide) rfl).to (by first | rfl | (rw [E53]; done) | (rw [E53]; rfl) | (simp only [E53]; done) | (simp only [E53]; rfl))), (by first | omega | assumption | (simp; done) | simp_all)⟩
          · refine st_lit (m := 1) (cs := [.int .i64 ((two7 0 ((k : Int) + 1) 0 ((k : Int) + 1) 1 1 0).1), .slice Ar41_0_1 ((two7 0 ((k : Int) + 1) 0 ((k : Int) + 1) 1 1 0).2.1.length) cr41_0_1, .slice Ar41_0_2 ((two7 0 ((k : Int) + 1) 0 ((k : Int) + 1) 1 1 0).2.2.1.length) cr41_0_2, .slice Ar41_0_3 ((two7 0 ((k : Int) + 1) 0 ((k : Int) + 1) 1 1 0).2.2.2.1.length) cr41_0_3, .int .i64 ((two7 0 ((k : Int) + 1) 0 ((k : Int) + 1) 1 1 0).2.2.2.2)]) (e := 95) HE120 HH118 (run_lit ts_22 HE120 (vs := [.agg #[.int .i64 ((two7 0 ((k : Int) + 1) 0 ((k : Int) + 1) 1 1 0).1), .slice Ar41_0_1 ((two7 0 ((k : Int) + 1) 0 ((k : Int) + 1) 1 1 0).2.1.length) cr41_0_1, .slice Ar41_0_2 ((two7 0 ((k : Int) + 1) 0 ((k : Int) + 1) 1 1 0).2.2.1.length) cr41_0_2, .slice Ar41_0_3 ((two7 0 ((k : Int) + 1) 0 ((k : Int) + 1) 1 1 0).2.2.2.1.length) cr41_0_3, .int .i64 ((two7 0 ((k : Int) + 1) 0 ((k : Int) + 1) 1 1 0).2.2.2.2)]]) rfl rfl (by simp [Value.cells]) rfl (by decide)) (wt0 rfl) rfl rfl fun q54 a_159 w' HE160 HH161 => hK123 _ _ (by exact HH161.sel [6] (by decide) rfl) ?_
            have HS162 := HH161.sel [6] (by decide) rfl
            refine dr_one (i := 1) (ls' := #[true, true, true, true, true, true, false, false, false]) rfl (by kernel_rfl) rfl fun K_163 hK164 => ?_
            refine st_x HE160 HH161 (wt0 rfl) (x_load1 tv_22 rfl (c_blk 5 rfl rfl)) rfl rfl fun a_165 HE166 => hK164 _ _ HS162 ?_
            refine dr_one (i := 6) (ls' := #[true, true, true, true, true, true, true, false, false]) rfl (by kernel_rfl) rfl fun K_167 hK168 => ?_
            have HH169 := HH161.sel [3, 2, 1, 0, 4, 5, 6] (by decide) rfl
            have HH170 := HH169.sel [2, 0, 1, 3, 4, 5, 6] (by decide) rfl
            have HH171 := HH170.pairB (F := eInt) (c2 := [.int .i64 ((two7 0 ((k : Int) + 1) 0 ((k : Int) + 1) 1 1 0).2.2.2.2)]) (y := (two7 0 ((k : Int) + 1) 0 ((k : Int) + 1) 1 1 0).2.2.2.2) (oI (by exact ⟨by omega, by omega⟩))
            have HH172 := HH171.sel [2, 0, 1, 3, 4, 5, 6] (by decide) rfl
            have HH173 := HH172.pair
            have HH174 := HH173.sel [1, 0, 2, 3, 4, 5] (by decide) rfl
            have HH175 := HH174.pair
            have HH176 := HH175.pairF (E := eInt) (c1 := [.int .i64 ((two7 0 ((k : Int) + 1) 0 ((k : Int) + 1) 1 1 0).1)]) (x := (two7 0 ((k : Int) + 1) 0 ((k : Int) + 1) 1 1 0).1) (oI (by exact ⟨by omega, by omega⟩))
            obtain ⟨S58, HH177⟩ : ∃ S, Held Nob w (rO eMultiRule S [.int .i64 ((two7 0 ((k : Int) + 1) 0 ((k : Int) + 1) 1 1 0).1), .slice Ar41_0_1 ((two7 0 ((k : Int) + 1) 0 ((k : Int) + 1) 1 1 0).2.1.length) cr41_0_1, .slice Ar41_0_2 ((two7 0 ((k : Int) + 1) 0 ((k : Int) + 1) 1 1 0).2.2.1.length) cr41_0_2, .slice Ar41_0_3 ((two7 0 ((k : Int) + 1) 0 ((k : Int) + 1) 1 1 0).2.2.2.1.length) cr41_0_3, .int .i64 ((two7 0 ((k : Int) + 1) 0 ((k : Int) + 1) 1 1 0).2.2.2.2)] (two7 0 ((k : Int) + 1) 0 ((k : Int) + 1) 1 1 0) :: _) _ := ⟨_, HH176⟩
            refine st_app1 HE166 HH177 ts_22 [2, 0, 1, 3, 4] (by decide) rfl rfl rfl (by simp [Value.oneCell']) (by unfold maxLen; first | omega | (simp; done) | (simp; omega)) (by first | omega | (simp; done) | (simp; omega)) (wt0 rfl) rfl fun A55 c56 S57 a_178 w' HE179 HH180 => hK168 _ _ (by exact HH180.sel [3] (by decide) rfl) ?_
            have HS181 := HH180.sel [3] (by decide) rfl
            refine dr_take (i := 7) (ls' := #[true, true, true, true, true, true, true, true, false]) HE179 HS181 rfl (by kernel_rfl) (by kernel_rfl) (by kernel_rfl) (fun _ _ _ h => h) rfl (wt0 rfl) (x_fieldAddr fa_24_3 rfl) rfl rfl fun a_182 HE183 => ?_
            refine dr_one (i := 8) (ls' := #[true, true, true, true, true, true, true, true, true]) rfl (by kernel_rfl) rfl fun K_184 hK185 => ?_
            refine st_store (vs := [.slice A55 ((copyTo k ++ [(two7 0 ((k : Int) + 1) 0 ((k : Int) + 1) 1 1 0)]).length) c56]) 2 HE183 HH180 tv_22 rfl rfl rfl rfl rfl rfl (by simp [Value.oneCell']) (wt0 rfl) fun w' HH186 => hK185 _ _ (by exact HH186.sel [3] (by decide) rfl) ?_
            have HS187 := HH186.sel [3] (by decide) rfl
            refine dr_done (by kernel_rfl) ?_
            clear HH44 a_49 HE50 a_53 HE54 a_55 HE56 HH51 HH110 HH111 HH112 HH113 HH114 HH115 HH116 HH117 a_57 HE58 HS52 K_59 hK60 a_119 HE120 HH118 HS121 K_122 hK123 a_159 HE160 K_163 hK164 HH161 HH169 HH170 HH171 HH172 HH173 HH174 HH175 HH176 a_165 HE166 HH177 HS162 a_178 HE179 K_167 hK168 HH180 HS181 hK185 K_184
            refine blk_n ?_
            refine nrm ?_
            refine rg ?_
            refine pl_x HE183 HH186 (wt0 rfl) (x_move rfl) rfl rfl fun a_188 HE189 => ?_
            refine pl_x HE189 HH186 (wt0 rfl) (x_add rfl rfl (by exact ⟨by omega, by omega⟩)) rfl rfl fun a_190 HE191 => ?_
            refine pl_x HE191 HH186 (wt0 rfl) (x_assign rfl) rfl rfl fun a_192 HE193 => ?_
            refine wpList_nil ?_
            clear a_182 HE183 a_188 HE189 a_190 HE191
            have E59 : copyTo (k + 1) = (copyTo k ++ [(two7 0 ((k : Int) + 1) 0 ((k : Int) + 1) 1 1 0)]) := by
              exact copyTo_succ k
            exact nrm ⟨(a0 - ((k + 1) : Int)).toNat, (by omega), k + 1, A55, c56, S57, rfl, HE193.sub ⟨(lkI rfl (by first | rfl | omega | (simp [hc23, p26_0, hc27]; done))), rfl, rfl, rfl, trivial⟩, ((HH186.sel [0, 2, 3] (by decide) rfl).to (by first | rfl | (rw [E59]; done) | (rw [E59]; rfl) | (simp only [E59]; done) | (simp only [E59]; rfl))), (by first | omega | assumption | (simp; done) | simp_all)⟩
      · refine wp_exit ?_
        refine (thn_exit (thn_exit (blk_hit ?_)))
        refine nrm ?_
        refine wp_seq ?_
        refine rg ?_
        refine pl_x HE50 HH44 (wt0 rfl) (x_loadN (cs := [.int .i64 (2), .int .i64 (a0), .int .i64 (1), .slice A_4_3 ((List.length (copyTo k))) c_4_3]) tv_24 rfl rfl (c_blkN 1 rfl)) rfl rfl fun a_194 HE195 => ?_
        refine pl fun K_196 hK197 => ?_
        refine st_store (vs := [.int .i64 (2), .int .i64 (a0), .int .i64 (1), .slice A_4_3 ((List.length (copyTo k))) c_4_3]) 2 HE195 HH44 tv_24 rfl rfl rfl rfl rfl rfl (by simp [Value.oneCell']) (wt0 rfl) fun w' HH198 => hK197 _ _ ?_
        refine pl_x HE195 HH198 (wt0 rfl) (x_assign rfl) rfl rfl fun a_199 HE200 => ?_
        refine wpList_nil ?_
        clear a_49 HE50 HH44 a_194 HE195 hK197 K_196
        refine nrm ?_
        refine wp_ret ?_
        refine ret2 HE200 rfl (rv_cell rfl (tv_24.loadN (cs := [.int .i64 (2), .int .i64 (a0), .int .i64 (1), .slice A_4_3 ((List.length (copyTo k))) c_4_3]) rfl (c_blkN 2 rfl _ HH198))) (rv_tmp rfl) ?_
        have HH201 := HH198.vecSo
        have HH202 := HH201.pairF (E := eInt) (c1 := [.int .i64 (1)]) (x := 1) (oI (by exact ⟨by omega, by omega⟩))
        have HH203 := HH202.pairF (E := eInt) (c1 := [.int .i64 (a0)]) (x := a0) (oI (by exact ⟨by omega, by omega⟩))
        have HH204 := HH203.pairF (E := eInt) (c1 := [.int .i64 (2)]) (x := 2) (oI (by exact ⟨by omega, by omega⟩))
        obtain ⟨S60, HH205⟩ : ∃ S, Held Nob w (rO eMulti S [.int .i64 (2), .int .i64 (a0), .int .i64 (1), .slice A_4_3 ((List.length (copyTo k))) c_4_3] (2, a0, 1, copyTo k) :: _) _ := ⟨_, HH204⟩
        have hF : (copyMulti a0) = ((2, a0, 1, copyTo k), 0) := by
          first | (simp [copyMulti, hc23, p26_0, hc27]; done) | (unfold copyMulti copyRls; rw [show (a0 - 1).toNat = k from by omega, if_pos ‹_›])
        exact ⟨_, by rw [hF] <;> rfl, by rw [hF]; exact (HH205.o (i := 0) rfl), HH205.below⟩

end Go.Proofs.Ytfcajgbehecfbaa
