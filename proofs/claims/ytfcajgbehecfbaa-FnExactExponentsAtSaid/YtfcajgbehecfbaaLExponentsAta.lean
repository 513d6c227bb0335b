/- What the proof of FnExactExponentsAt needs: contracts of the functions that it reaches, each once. -/
import Derived.Test.YtfcajgbehecfbaaProg
import Derived.Test.YtfcajgbehecfbaaQMem
import Derived.Test.YtfcajgbehecfbaaQOpen
import Derived.WalkKit
import Derived.WalkSpells
import Derived.Below
import Derived.LoopTactic
import Derived.Outline
import Derived.Deep.QuietTactic
import Derived.BigQuiet
import Derived.Deep.LoopGhost
import Derived.Handy
import Derived.Lib.Hide
import Derived.Shelf.Abstract
import Derived.StillTailTactics
import Derived.OwnWalk
import Derived.Maps.AppendAt
import Derived.RegionTactic
import Derived.Deep.RegionHeld3
import Derived.IntWalk
import Derived.Deep.Upon
import Derived.Laws.OwnMore
import Derived.Maps.AppendAt
import Derived.Lib.SliceRun
import Derived.Lib.AppendZeros
namespace Go.Proofs.Ytfcajgbehecfbaa
open Go.RowKit

def lk (t : Nat) : List (Nat × Value) → Option Value
  | [] => none
  | (i, v) :: L => bif Nat.beq t i then some v else lk t L

/-- The slots L are known. -/
structure Env (n : Nat) (L : List (Nat × Value)) (a : Act) : Prop where
  defers : a.defers = []
  size : a.tmps.size = n
  get : ∀ t v, lk t L = some v → a.tmps.getD t undef = v

def ev (L : List (Nat × Value)) : Operand → Option Value
  | .tmp t => lk t L
  | .const v => some v
  | .global g => some (.pointer (some ⟨g, 0, none⟩))
  | .func f => some (.func (.func f) #[] #[])

theorem Env.ev {n : Nat} {L : List (Nat × Value)} {a : Act} {x : Operand} {v : Value} (h : Env n L a) (hx : ev L x = some v) : a.eval x = v := by
  cases x with
  | tmp t => exact h.get t v hx
  | const u => simpa [Go.Proofs.Ytfcajgbehecfbaa.ev, Act.eval] using hx
  | global g => simpa [Go.Proofs.Ytfcajgbehecfbaa.ev, Act.eval] using hx
  | func f => simpa [Go.Proofs.Ytfcajgbehecfbaa.ev, Act.eval] using hx

theorem Env.put {n : Nat} {L : List (Nat × Value)} {a : Act} {d : Nat} (h : Env n L a) (hd : Nat.blt d n = true) (v : Value) : Env n ((d, v) :: L) (a.put (some d) v) where
  defers := h.defers
  size := by simpa [Act.put] using h.size
  get := by
    intro t u hu
    have hlt : d < a.tmps.size := by rw [h.size]; exact Nat.blt_eq ▸ hd
    simp only [lk] at hu
    by_cases e : t = d
    · subst e
      simp at hu
      subst hu
      simp [Act.put, Array.getElem?_setIfInBounds_self_of_lt hlt]
    · have e' : Nat.beq t d = false := Bool.eq_false_iff.2 fun h => e (Nat.eq_of_beq_eq_true h)
      rw [e'] at hu
      have := h.get t u hu
      simpa [Act.put, Array.getElem?_setIfInBounds_ne (fun h => e h.symm)] using this

def subE (L : List (Nat × Value)) : List (Nat × Value) → Prop
  | [] => True
  | p :: K => lk p.1 L = some p.2 ∧ subE L K

theorem Env.sub {n : Nat} {L K : List (Nat × Value)} {a : Act} (h : Env n L a) (hs : subE L K) : Env n K a where
  defers := h.defers
  size := h.size
  get := by
    intro t v hv
    refine h.get t v ?_
    clear h
    induction K with
    | nil => cases hv
    | cons p K ih =>
      obtain ⟨i, u⟩ := p
      simp only [lk] at hv
      by_cases e : Nat.beq t i = true
      · rw [e] at hv
        have e' := Nat.eq_of_beq_eq_true e
        simp at hv
        rw [e', hs.1, hv]
      · have e' : Nat.beq t i = false := Bool.eq_false_iff.2 e
        rw [e'] at hv
        exact ih hs.2 hv

theorem Env.sub' {n : Nat} {L K : List (Nat × Value)} {a : Act} (h : Env n L a) (hs : ∀ t v, lk t K = some v → lk t L = some v) : Env n K a := ⟨h.defers, h.size, fun t v hv => h.get t v (hs t v hv)⟩

theorem Env.start {n : Nat} {vs : List Value} {L : List (Nat × Value)} (hL : ∀ t v, lk t L = some v → vs[t]? = some v) (hn : vs.length ≤ n) : Env n L { tmps := vs.toArray ++ Array.replicate (n - vs.toArray.size) undef, defers := [] } where
  defers := rfl
  size := by simp; omega
  get := by
    intro t v hv
    have h1 := hL t v hv
    have h2 := (List.getElem?_eq_some_iff.1 h1).1
    simp only [Array.getD_eq_getD_getElem?, Array.getElem?_append, List.size_toArray, h2, if_true, List.getElem?_toArray, h1, Option.getD_some]

/-- A part of the memory that is held: its blocks, and what is known of them. -/
structure Res where
  S : Nat → Prop
  φ : World → Prop
  loc : ∀ w w' : World, (∀ b, S b → w'.heap[b]? = w.heap[b]?) → φ w → φ w'

/-- Since w0 nothing has changed but blocks of M; the parts rs are held, apart from one another, in M or in new blocks. -/
structure Held (M : Nat → Prop) (w0 : World) (rs : List Res) (w : World) : Prop where
  chg : Chg M w0 w
  ok : ∀ r ∈ rs, r.φ w
  rng : ∀ r ∈ rs, ∀ b, r.S b → (M b ∨ w0.heap.size ≤ b) ∧ b < w.heap.size
  sep : rs.Pairwise fun r s => ∀ b, r.S b → ¬ s.S b

/-- No block. -/
def Nob : Nat → Prop := fun _ => False

def rBlk (g : Nat) (t : TypeId) (cs : List Value) : Res := ⟨fun b => b = g, fun w => Blk w g t cs.toArray, fun _ _ h hb => (h g rfl).trans hb⟩

def rO {α : Type} (E : Enc α) (S : Nat → Prop) (cs : List Value) (x : α) : Res := ⟨S, fun w => E.O w S cs x, fun _ _ h ho => E.okeep ho h⟩

/-- An owned slice. -/
abbrev rSo {α : Type} (E : Enc α) (S : Nat → Prop) (A : Option Addr) (c : Nat) (xs : List α) : Res := rO (eSl E) S [.slice A xs.length c] xs

theorem Held.start (M : Nat → Prop) (w : World) : Held M w [] w := ⟨Chg.refl _ _, (fun _ h => by cases h), (fun _ h => by cases h), List.Pairwise.nil⟩

theorem Held.below {w0 : World} {rs : List Res} {w : World} (h : Held Nob w0 rs w) : Below w0.heap.size w0 w := h.chg.below (Nat.le_refl _) fun _ h => h.elim

theorem Held.size {M : Nat → Prop} {w0 : World} {rs : List Res} {w : World} (h : Held M w0 rs w) : w0.heap.size ≤ w.heap.size := h.chg.size

theorem Held.get {M : Nat → Prop} {w0 : World} {rs : List Res} {w : World} (h : Held M w0 rs w) {i : Nat} {r : Res} (hi : rs[i]? = some r) : r.φ w := h.ok r (List.mem_of_getElem? hi)

theorem Held.drew {M : Nat → Prop} {w0 : World} {rs : List Res} {w : World} (h : Held M w0 rs w) : Held M w0 rs w.drew := ⟨h.chg.drew, fun r hr => r.loc w _ (fun _ _ => rfl) (h.ok r hr), h.rng, h.sep⟩

theorem Held.on {M : Nat → Prop} {w0 : World} {rs : List Res} {w w' : World} (h : Held M w0 rs w) (hb : Below w.heap.size w w') : Held M w0 rs w' where
  chg := h.chg.trans (.of_below hb)
  ok := fun r hr => r.loc _ _ (fun b hS => hb.block b (h.rng r hr b hS).2) (h.ok r hr)
  rng := fun r hr b hS => ⟨(h.rng r hr b hS).1, Nat.lt_of_lt_of_le (h.rng r hr b hS).2 hb.size⟩
  sep := h.sep

/-- A call has made r. -/
theorem Held.new {M : Nat → Prop} {w0 : World} {rs : List Res} {w w' : World} (h : Held M w0 rs w) (hb : Below w.heap.size w w') (r : Res) (hr : r.φ w') (hS : ∀ b, r.S b → w.heap.size ≤ b ∧ b < w'.heap.size) : Held M w0 (r :: rs) w' where
  chg := (h.on hb).chg
  ok := by
    intro s hs
    rcases List.mem_cons.1 hs with rfl | hs
    · exact hr
    · exact (h.on hb).ok s hs
  rng := by
    intro s hs
    rcases List.mem_cons.1 hs with rfl | hs
    · exact fun b hb' => ⟨.inr (Nat.le_trans h.size (hS b hb').1), (hS b hb').2⟩
    · exact (h.on hb).rng s hs
  sep := List.pairwise_cons.2 ⟨fun s hs b hb1 hb2 => by have h1 := (hS b hb1).1; have h2 := (h.rng s hs b hb2).2; omega, h.sep⟩

theorem Held.newO {M : Nat → Prop} {w0 : World} {rs : List Res} {w w' : World} {α : Type} {E : Enc α} {cs : List Value} {x : α} (h : Held M w0 rs w) (hb : Below w.heap.size w w') (ho : E.O w' (Fr w w') cs x) : ∃ S, Held M w0 (rO E S cs x :: rs) w' :=
  ⟨Fr w w', h.new hb (rO E (Fr w w') cs x) ho fun _ h => h⟩

theorem Held.newS {M : Nat → Prop} {w0 : World} {rs : List Res} {w w' : World} {α : Type} {E : Enc α} {A : Option Addr} {c : Nat} {xs : List α} (h : Held M w0 rs w) (hb : Below w.heap.size w w') (ho : So E w' (Fr w w') A c xs) : ∃ S, Held M w0 (rSo E S A c xs :: rs) w' := h.newO hb (oSl ho)

theorem Held.alloc {M : Nat → Prop} {w0 : World} {rs : List Res} {w : World} (h : Held M w0 rs w) (t : TypeId) (cs : List Value) : Held M w0 (rBlk w.heap.size t cs :: rs) (w.alloc (.cells cs.toArray t)) :=
  h.new ((Below.refl _ _).alloc (Nat.le_refl _) _) (rBlk w.heap.size t cs) (Blk.new w t cs.toArray) fun b (hb : b = _) => by subst hb; simp

def pick (rs : List Res) : List Nat → Option (List Res)
  | [] => some []
  | i :: is => match rs[i]?, pick rs is with
    | some r, some q => some (r :: q)
    | _, _ => none

theorem pick_get {rs rs' : List Res} {is : List Nat} (h : pick rs is = some rs') : ∀ (k : Nat) (r : Res), rs'[k]? = some r → ∃ i, is[k]? = some i ∧ rs[i]? = some r := by
  induction is generalizing rs' with
  | nil => simp [pick] at h; subst h; intro k r hr; simp at hr
  | cons i is ih =>
    simp only [pick] at h
    cases hi : rs[i]? with
    | none => simp [hi] at h
    | some r0 =>
      cases hm : pick rs is with
      | none => simp [hi, hm] at h
      | some rs2 =>
        simp [hi, hm] at h
        subst h
        intro k r hr
        rcases k with _ | k
        · simp at hr; subst hr; exact ⟨i, rfl, hi⟩
        · simp at hr; exact ih hm k r hr

theorem sep_at {rs : List Res} (h : rs.Pairwise fun r s => ∀ b, r.S b → ¬ s.S b) {i j : Nat} {r s : Res} (hi : rs[i]? = some r) (hj : rs[j]? = some s) (hij : i ≠ j) : ∀ b, r.S b → ¬ s.S b := by
  obtain ⟨li, rfl⟩ := List.getElem?_eq_some_iff.1 hi
  obtain ⟨lj, rfl⟩ := List.getElem?_eq_some_iff.1 hj
  rw [List.pairwise_iff_getElem] at h
  rcases Nat.lt_or_gt_of_ne hij with hlt | hlt
  · exact h i j li lj hlt
  · exact fun b h1 h2 => h j i lj li hlt b h2 h1

/-- Some of the parts, in another order. -/
theorem Held.sel {M : Nat → Prop} {w0 : World} {rs : List Res} {w : World} (h : Held M w0 rs w) (is : List Nat) {rs' : List Res} (hn : is.Nodup) (hs : pick rs is = some rs') : Held M w0 rs' w where
  chg := h.chg
  ok := by
    intro r hr
    obtain ⟨k, hk⟩ := List.mem_iff_getElem?.1 hr
    obtain ⟨i, _, hi⟩ := pick_get hs k r hk
    exact h.get hi
  rng := by
    intro r hr
    obtain ⟨k, hk⟩ := List.mem_iff_getElem?.1 hr
    obtain ⟨i, _, hi⟩ := pick_get hs k r hk
    exact h.rng r (List.mem_of_getElem? hi)
  sep := by
    rw [List.pairwise_iff_getElem]
    intro k l lk ll hkl
    obtain ⟨i, h1, hi⟩ := pick_get hs k _ (List.getElem?_eq_getElem lk)
    obtain ⟨j, h2, hj⟩ := pick_get hs l _ (List.getElem?_eq_getElem ll)
    refine sep_at h.sep hi hj ?_
    rintro rfl
    obtain ⟨l1, e1⟩ := List.getElem?_eq_some_iff.1 h1
    obtain ⟨l2, e2⟩ := List.getElem?_eq_some_iff.1 h2
    have := List.pairwise_iff_getElem.1 hn k l l1 l2 hkl
    exact this (e1.trans e2.symm)

/-- What was there at the start, outside M, reads so still. -/
theorem Held.cell0 {M : Nat → Prop} {w0 : World} {rs : List Res} {w : World} (h : Held M w0 rs w) {p : Addr} (hp : p.block < w0.heap.size) (hM : ¬ M p.block) : w.cell? p = w0.cell? p := World.cell?_of_block (w := w0) (h.chg.block p.block hp hM)

theorem Held.old {w0 : World} {rs : List Res} {w : World} {α : Type} {E : Enc α} {A : Option Addr} {c : Nat} {xs : List α} (h : Held Nob w0 rs w) (hs : Sl E w0 (Old w0) A c xs) : Sl E w (Old w) A c xs := hs.on h.below

theorem Held.oldR {w0 : World} {rs : List Res} {w : World} {α : Type} {E : Enc α} {cs : List Value} {x : α} (h : Held Nob w0 rs w) (hs : E.R w0 (Old w0) cs x) : E.R w (Old w) cs x := E.on hs h.below

theorem Held.rd {M : Nat → Prop} {w0 : World} {rs : List Res} {w : World} {α : Type} {E : Enc α} {S : Nat → Prop} {cs : List Value} {x : α} (h : Held M w0 rs w) {i : Nat} (hi : rs[i]? = some (rO E S cs x)) : E.R w (Old w) cs x :=
  E.more (E.read (h.get hi)) fun b hb => (h.rng _ (List.mem_of_getElem? hi) b hb).2

theorem so_of_o {α : Type} {E : Enc α} {w : World} {S : Nat → Prop} {A : Option Addr} {c : Nat} {xs : List α} (h : (eSl E).O w S [.slice A xs.length c] xs) : So E w S A c xs := by
  obtain ⟨A', c', he, hs⟩ := h
  simp only [List.cons.injEq, Value.slice.injEq, and_true, true_and] at he
  obtain ⟨rfl, rfl⟩ := he
  exact hs

theorem sl_of_r {α : Type} {E : Enc α} {w : World} {S : Nat → Prop} {A : Option Addr} {c : Nat} {xs : List α} (h : (eSl E).R w S [.slice A xs.length c] xs) : Sl E w S A c xs := by
  obtain ⟨A', c', he, hs⟩ := h
  simp only [List.cons.injEq, Value.slice.injEq, and_true, true_and] at he
  obtain ⟨rfl, rfl⟩ := he
  exact hs

theorem Held.sl {M : Nat → Prop} {w0 : World} {rs : List Res} {w : World} {α : Type} {E : Enc α} {S : Nat → Prop} {A : Option Addr} {c : Nat} {xs : List α} (h : Held M w0 rs w) {i : Nat} (hi : rs[i]? = some (rSo E S A c xs)) : Sl E w (Old w) A c xs := sl_of_r (h.rd hi)

theorem Held.so {w0 : World} {rs : List Res} {w : World} {α : Type} {E : Enc α} {S : Nat → Prop} {A : Option Addr} {c : Nat} {xs : List α} (h : Held Nob w0 rs w) {i : Nat} (hi : rs[i]? = some (rSo E S A c xs)) : So E w (Fr w0 w) A c xs :=
  (so_of_o (h.get hi)).more fun b hb => by
    have h1 := h.rng _ (List.mem_of_getElem? hi) b hb
    exact ⟨h1.1.resolve_left fun h => h.elim, h1.2⟩

theorem Held.o {w0 : World} {rs : List Res} {w : World} {α : Type} {E : Enc α} {S : Nat → Prop} {cs : List Value} {x : α} (h : Held Nob w0 rs w) {i : Nat} (hi : rs[i]? = some (rO E S cs x)) : E.O w (Fr w0 w) cs x :=
  E.omore (h.get hi) fun b hb => by
    have h1 := h.rng _ (List.mem_of_getElem? hi) b hb
    exact ⟨h1.1.resolve_left fun h => h.elim, h1.2⟩

/-- Part i is rewritten: only its blocks have changed, and new ones have come. -/
theorem Held.mut {M : Nat → Prop} {w0 : World} {rs : List Res} {w w' : World} (h : Held M w0 rs w) {i : Nat} {r : Res} (hi : rs[i]? = some r) (hc : Chg r.S w w') (r' : Res) (hr : r'.φ w') (hS : ∀ b, r'.S b → r.S b ∨ (w.heap.size ≤ b ∧ b < w'.heap.size)) : Held M w0 (rs.set i r') w' where
  chg := by
    refine ⟨hc.os.trans h.chg.os, hc.tape.trans h.chg.tape, hc.output.trans h.chg.output, Nat.le_trans h.chg.size hc.size, fun k hk hM => ?_⟩
    refine (hc.block k (Nat.lt_of_lt_of_le hk h.chg.size) fun hS' => ?_).trans (h.chg.block k hk hM)
    rcases (h.rng r (List.mem_of_getElem? hi) k hS').1 with h1 | h1
    · exact hM h1
    · omega
  ok := by
    intro s hs
    obtain ⟨j, hj⟩ := List.mem_iff_getElem?.1 hs
    by_cases e : i = j
    · subst e
      rw [List.getElem?_set_self (List.getElem?_eq_some_iff.1 hi).1] at hj
      simp at hj; subst hj; exact hr
    · rw [List.getElem?_set_ne e] at hj
      refine s.loc _ _ (fun b hb => hc.block b (h.rng s (List.mem_of_getElem? hj) b hb).2 fun hb' => sep_at h.sep hi hj e b hb' hb) (h.get hj)
  rng := by
    intro s hs b hb
    obtain ⟨j, hj⟩ := List.mem_iff_getElem?.1 hs
    by_cases e : i = j
    · subst e
      rw [List.getElem?_set_self (List.getElem?_eq_some_iff.1 hi).1] at hj
      simp at hj; subst hj
      rcases hS b hb with h1 | h1
      · have h2 := h.rng r (List.mem_of_getElem? hi) b h1
        exact ⟨h2.1, Nat.lt_of_lt_of_le h2.2 hc.size⟩
      · exact ⟨.inr (Nat.le_trans h.size h1.1), h1.2⟩
    · rw [List.getElem?_set_ne e] at hj
      have h2 := h.rng s (List.mem_of_getElem? hj) b hb
      exact ⟨h2.1, Nat.lt_of_lt_of_le h2.2 hc.size⟩
  sep := by
    have key : ∀ (j : Nat) (s : Res), i ≠ j → rs[j]? = some s → ∀ b, r'.S b → ¬ s.S b := by
      intro j s e hj b hb hb'
      rcases hS b hb with h1 | h1
      · exact sep_at h.sep hi hj e b h1 hb'
      · have := (h.rng s (List.mem_of_getElem? hj) b hb').2; omega
    rw [List.pairwise_iff_getElem]
    intro k l lk ll hkl b hb hb'
    have lk' : k < rs.length := by simpa using lk
    have ll' : l < rs.length := by simpa using ll
    by_cases e1 : i = k
    · subst e1
      rw [List.getElem_set_self] at hb
      rw [List.getElem_set_ne (by omega)] at hb'
      exact key l _ (by omega) (List.getElem?_eq_getElem ll') b hb hb'
    · by_cases e2 : i = l
      · subst e2
        rw [List.getElem_set_self] at hb'
        rw [List.getElem_set_ne (by omega)] at hb
        exact key k _ e1 (List.getElem?_eq_getElem lk') b hb' hb
      · rw [List.getElem_set_ne e1] at hb
        rw [List.getElem_set_ne e2] at hb'
        exact List.pairwise_iff_getElem.1 h.sep k l lk' ll' hkl b hb hb'

theorem Held.set {M : Nat → Prop} {w0 : World} {rs : List Res} {w : World} (h : Held M w0 rs w) {i : Nat} {g : Nat} {t : TypeId} {cs : List Value} (hi : rs[i]? = some (rBlk g t cs)) (o : Nat) (v : Value) : Held M w0 (rs.set i (rBlk g t (cs.set o v))) (w.setCell ⟨g, o, none⟩ v) := by
  refine h.mut hi ((Chg.refl _ _).set (by exact rfl) _) (rBlk g t (cs.set o v)) ?_ fun b hb => .inl hb
  have := Blk.set (h.get hi) o v
  have e : cs.toArray.setIfInBounds o v = (cs.set o v).toArray := by simp
  rw [e] at this
  exact this

/-- Two parts become one. -/
theorem Held.join {M : Nat → Prop} {w0 : World} {r s : Res} {rs : List Res} {w : World} (h : Held M w0 (r :: s :: rs) w) (q : Res) (hq : r.φ w → s.φ w → (∀ b, r.S b → ¬ s.S b) → q.φ w) (hS : ∀ b, q.S b → r.S b ∨ s.S b) : Held M w0 (q :: rs) w where
  chg := h.chg
  ok := by
    intro x hx
    rcases List.mem_cons.1 hx with rfl | hx
    · exact hq (h.ok r (by simp)) (h.ok s (by simp)) ((List.pairwise_cons.1 h.sep).1 s (by simp))
    · exact h.ok x (by simp [hx])
  rng := by
    intro x hx b hb
    rcases List.mem_cons.1 hx with rfl | hx
    · rcases hS b hb with h1 | h1
      · exact h.rng r (by simp) b h1
      · exact h.rng s (by simp) b h1
    · exact h.rng x (by simp [hx]) b hb
  sep := by
    have h1 := List.pairwise_cons.1 h.sep
    have h2 := List.pairwise_cons.1 h1.2
    refine List.pairwise_cons.2 ⟨fun x hx b hb hb' => ?_, h2.2⟩
    rcases hS b hb with h3 | h3
    · exact h1.1 x (by simp [hx]) b h3 hb'
    · exact h2.1 x hx b h3 hb'

/-- One part turned into another over the same blocks. -/
theorem Held.turn {M : Nat → Prop} {w0 : World} {r : Res} {rs : List Res} {w : World} (h : Held M w0 (r :: rs) w) (q : Res) (hq : r.φ w → q.φ w) (hS : ∀ b, q.S b → r.S b) : Held M w0 (q :: rs) w where
  chg := h.chg
  ok := by
    intro x hx
    rcases List.mem_cons.1 hx with rfl | hx
    · exact hq (h.ok r (by simp))
    · exact h.ok x (by simp [hx])
  rng := by
    intro x hx b hb
    rcases List.mem_cons.1 hx with rfl | hx
    · exact h.rng r (by simp) b (hS b hb)
    · exact h.rng x (by simp [hx]) b hb
  sep := by
    have h1 := List.pairwise_cons.1 h.sep
    exact List.pairwise_cons.2 ⟨fun x hx b hb hb' => h1.1 x hx b (hS b hb) hb', h1.2⟩

theorem Held.pair {M : Nat → Prop} {w0 : World} {rs : List Res} {w : World} {α β : Type} {E : Enc α} {F : Enc β} {S1 S2 : Nat → Prop} {c1 c2 : List Value} {x : α} {y : β} (h : Held M w0 (rO E S1 c1 x :: rO F S2 c2 y :: rs) w) : Held M w0 (rO (ePr E F) (fun b => S1 b ∨ S2 b) (c1 ++ c2) (x, y) :: rs) w :=
  h.join _ (fun h1 h2 hd => ⟨c1, c2, S1, S2, rfl, fun b hb => ⟨.inl hb, hd b hb⟩, fun b hb => .inr hb, h1, h2⟩) fun _ hb => hb

/-- A flat part in front. -/
theorem Held.pairF {M : Nat → Prop} {w0 : World} {rs : List Res} {w : World} {α β : Type} {E : Enc α} {F : Enc β} {S : Nat → Prop} {c1 c2 : List Value} {x : α} {y : β} (h : Held M w0 (rO F S c2 y :: rs) w) (hx : E.O w Nob c1 x) : Held M w0 (rO (ePr E F) S (c1 ++ c2) (x, y) :: rs) w :=
  h.turn _ (fun h2 => ⟨c1, c2, Nob, S, rfl, fun b hb => hb.elim, fun b hb => hb, hx, h2⟩) fun _ hb => hb

/-- A flat part behind. -/
theorem Held.pairB {M : Nat → Prop} {w0 : World} {rs : List Res} {w : World} {α β : Type} {E : Enc α} {F : Enc β} {S : Nat → Prop} {c1 c2 : List Value} {x : α} {y : β} (h : Held M w0 (rO E S c1 x :: rs) w) (hy : F.O w Nob c2 y) : Held M w0 (rO (ePr E F) S (c1 ++ c2) (x, y) :: rs) w :=
  h.turn _ (fun h2 => ⟨c1, c2, S, Nob, rfl, fun b hb => ⟨hb, fun h => h⟩, fun b hb => hb.elim, h2, hy⟩) fun _ hb => hb

/-- In every world that meets S, operation o yields v and does nothing else. -/
def XS (P : Program) (S : World → Prop) (L : List (Nat × Value)) (o : Oper) (v : Value) : Prop :=
  ∀ (n : Nat) (a : Act) (w : World), Env n L a → S w → (execOp a.eval o).run P w = .ok (.value v) w

abbrev Stp (P : Program) (ops : Array Oper) (Q : Exit → Act → World → Prop) (o : Oper) (a : Act) (w : World) (K : Act → World → Prop) : Prop :=
  if Region.wanted o (yielded ops a.tmps) = true then Oper.wp P o a w K Q else K (a.put o.dst undef) w

theorem wt0 {o : Oper} {ops : Array Oper} {a : Act} (hg : o.guard = none) : Region.wanted o (yielded ops a.tmps) = true := by simp [Region.wanted, hg]

theorem yielded_at {n : Nat} {L : List (Nat × Value)} {a : Act} {ops : Array Oper} {g t : Nat} {b : Bool} (hE : Env n L a) (ht : (ops[g]?).bind (·.dst) = some t) (hl : lk t L = some (.bool b)) : yielded ops a.tmps g = some b := by
  have h := hE.get t _ hl
  have hsz : a.tmps[t]? = some (.bool b) := by
    rw [Array.getD_eq_getD_getElem?] at h
    cases h' : a.tmps[t]? with
    | none => rw [h'] at h; simp [undef] at h
    | some v => rw [h'] at h; simp at h; rw [h]
  simp [yielded, ht, hsz]

theorem wtT {n : Nat} {L : List (Nat × Value)} {a : Act} {o : Oper} {ops : Array Oper} {g t : Nat} {b want : Bool} (hE : Env n L a) (hg : o.guard = some (g, want)) (ht : (ops[g]?).bind (·.dst) = some t) (hl : lk t L = some (.bool b)) (hb : b = want) : Region.wanted o (yielded ops a.tmps) = true := by
  simp [Region.wanted, hg, yielded_at hE ht hl, hb]

theorem wtF {n : Nat} {L : List (Nat × Value)} {a : Act} {o : Oper} {ops : Array Oper} {g t : Nat} {b want : Bool} (hE : Env n L a) (hg : o.guard = some (g, want)) (ht : (ops[g]?).bind (·.dst) = some t) (hl : lk t L = some (.bool b)) (hb : b = !want) : Region.wanted o (yielded ops a.tmps) = false := by
  subst hb; cases want <;> simp [Region.wanted, hg, yielded_at hE ht hl]

theorem wtU {n : Nat} {L : List (Nat × Value)} {a : Act} {o : Oper} {ops : Array Oper} {g t : Nat} {want : Bool} (hE : Env n L a) (hg : o.guard = some (g, want)) (ht : (ops[g]?).bind (·.dst) = some t) (hl : lk t L = some undef) : Region.wanted o (yielded ops a.tmps) = false := by
  have h := hE.get t _ hl
  have : yielded ops a.tmps g = none := by
    rw [Array.getD_eq_getD_getElem?] at h
    cases h' : a.tmps[t]? with
    | none => simp [yielded, ht, h']
    | some v => rw [h'] at h; simp at h; subst h; simp [yielded, ht, h', undef]
  simp [Region.wanted, hg, this]

theorem st_val {P : Program} {ops : Array Oper} {Q : Exit → Act → World → Prop} {o : Oper} {a : Act} {w w' : World} {K : Act → World → Prop} {n d : Nat} {L : List (Nat × Value)} {v : Value} (hE : Env n L a) (hw : Region.wanted o (yielded ops a.tmps) = true) (hr : (execOp a.eval o).run P w = .ok (.value v) w') (hd : o.dst = some d) (hn : Nat.blt d n = true)
    (k : ∀ a', Env n ((d, v) :: L) a' → K a' w') : Stp P ops Q o a w K := by
  unfold Stp; rw [if_pos hw]; unfold Oper.wp; rw [hr]; simp only [Oper.upon]; rw [hd]; exact k _ (hE.put hn v)

theorem st_x {P : Program} {S : World → Prop} {ops : Array Oper} {Q : Exit → Act → World → Prop} {o : Oper} {a : Act} {w : World} {K : Act → World → Prop} {n d : Nat} {L : List (Nat × Value)} {v : Value} (hE : Env n L a) (hS : S w) (hw : Region.wanted o (yielded ops a.tmps) = true) (hx : XS P S L o v) (hd : o.dst = some d) (hn : Nat.blt d n = true)
    (k : ∀ a', Env n ((d, v) :: L) a' → K a' w) : Stp P ops Q o a w K := st_val hE hw (hx _ _ _ hE hS) hd hn k

theorem st_skip {P : Program} {ops : Array Oper} {Q : Exit → Act → World → Prop} {o : Oper} {a : Act} {w w' : World} {K : Act → World → Prop} (hw : Region.wanted o (yielded ops a.tmps) = true) (hr : (execOp a.eval o).run P w = .ok .skip w') (hd : o.dst = none)
    (k : K a w') : Stp P ops Q o a w K := by
  unfold Stp; rw [if_pos hw]; unfold Oper.wp; rw [hr]; simp only [Oper.upon]; rw [hd]; exact k

theorem st_no {P : Program} {ops : Array Oper} {Q : Exit → Act → World → Prop} {o : Oper} {a : Act} {w : World} {K : Act → World → Prop} {n d : Nat} {L : List (Nat × Value)} (hE : Env n L a) (hw : Region.wanted o (yielded ops a.tmps) = false) (hd : o.dst = some d) (hn : Nat.blt d n = true)
    (k : ∀ a', Env n ((d, undef) :: L) a' → K a' w) : Stp P ops Q o a w K := by
  unfold Stp; rw [if_neg (by rw [hw]; simp), hd]; exact k _ (hE.put hn _)

def evs (L : List (Nat × Value)) : List Operand → Option (List Value)
  | [] => some []
  | x :: xs => match ev L x, evs L xs with
    | some v, some vs => some (v :: vs)
    | _, _ => none

theorem evs_map {n : Nat} {L : List (Nat × Value)} {a : Act} (hE : Env n L a) : ∀ (xs : List Operand) (vs : List Value), evs L xs = some vs → xs.map a.eval = vs
  | [], vs, h => by simp [evs] at h; subst h; rfl
  | x :: xs, vs, h => by
    simp only [evs] at h
    cases h1 : ev L x with
    | none => simp [h1] at h
    | some v =>
      cases h2 : evs L xs with
      | none => simp [h1, h2] at h
      | some us =>
        simp [h1, h2] at h
        subst h
        rw [List.map_cons, hE.ev h1, evs_map hE xs us h2]

/-- A call of a Go function by its contract. -/
theorem st_call {P : Program} {ops : Array Oper} {Q : Exit → Act → World → Prop} {o : Oper} {a : Act} {w : World} {K : Act → World → Prop} {n d F : Nat} {L : List (Nat × Value)} {f : Operand} {xs : List Operand} {ts : Array TypeId} {vs : List Value} {R : Ending → World → Prop}
    (hE : Env n L a) (hw : Region.wanted o (yielded ops a.tmps) = true) (ho : o.op = .call { callee := .value f, args := xs.toArray, argTypes := ts }) (hf : ev L f = some (.func (.func F) #[] #[])) (hx : evs L xs = some vs)
    (hen : ∀ args w, (callFunc F args).run P w = .ok (.enter F args) w) (hd : o.dst = some d) (hn : Nat.blt d n = true) (hc : Calls P F vs.toArray w R)
    (k : ∀ e w', R e w' → ∃ v, e = .returned v ∧ ∀ a', Env n ((d, v) :: L) a' → K a' w') : Stp P ops Q o a w K := by
  unfold Stp; rw [if_pos hw]; unfold Oper.wp
  have hr : (execOp a.eval o).run P w = .ok (.enter F vs.toArray) w := by
    unfold execOp
    simp only [ho, resolve, hE.ev hf, Deferred.ofValue, Sem.run_bind, Sem.run_pure, Result.andThen_ok, invoke, List.map_toArray, evs_map hE xs vs hx]
    simpa using hen vs.toArray w
  rw [hr]; simp only [Oper.upon]; rw [hd]
  refine hc.mono fun e w' hR => ?_
  obtain ⟨v, rfl, h⟩ := k e w' hR
  exact h _ (hE.put hn v)

theorem rg {P : Program} {Q : Exit → Act → World → Prop} {a : Act} {w : World} {id : Nat} {l : List Oper} (h : wpList P l.toArray Q l a w) : (Code.region id l.toArray false).wp P Q a w := wp_region_lit h

theorem dr_start {P : Program} {ops : Array Oper} {Q : Exit → Act → World → Prop} {a : Act} {w : World} {id : Nat} {M : Nat → Prop} {w0 : World} {rs : List Res} (S : World → Prop) (m : Nat) (ls : Array Bool) (hm : P.follows .mixedOrders = true) (hz : ops.size = m) (hls : Array.replicate m false = ls) (hH : Held M w0 rs w) (hS : ∀ w, Held M w0 rs w → S w)
    (k : ∀ w', Held M w0 rs w' → wpAnyH P .any ops Q S m ls a w') : (Code.region id ops true).wp P Q a w := by
  refine wp_region_held_drew (S := S) hm (hS _ hH.drew) fun _ => ?_
  rw [hz, hls]; exact k _ hH.drew

theorem dr_take {P : Program} {ops : Array Oper} {Q : Exit → Act → World → Prop} {a : Act} {w : World} {S : World → Prop} {m : Nat} {ls ls' : Array Bool} {i n d : Nat} {o : Oper} {v : Value} {L : List (Nat × Value)} (hE : Env n L a) (hS : S w) (hi : ops[i]? = some o) (hs : Region.noSelect ops = true) (hf : Region.free .any ops ls i = true) (hr : (Region.ready .any ops ls).contains i = true)
    (hQ : ∀ c a w, Q (.panic c) (a.put o.dst v) w → Q (.panic c) a w) (hls : ls.setIfInBounds i true = ls') (hw : Region.wanted o (yielded ops a.tmps) = true) (hx : XS P S L o v) (hd : o.dst = some d) (hn : Nat.blt d n = true)
    (k : ∀ a', Env n ((d, v) :: L) a' → wpAnyH P .any ops Q S m ls' a' w) : wpAnyH P .any ops Q S (m + 1) ls a w := by
  refine wpAnyH_take hi hs hf hr hQ (.inl ⟨hw, fun w hS => hx _ _ _ hE hS⟩) hS ?_
  rw [hls, hd]; exact k _ (hE.put hn v)

theorem dr_takeNo {P : Program} {ops : Array Oper} {Q : Exit → Act → World → Prop} {a : Act} {w : World} {S : World → Prop} {m : Nat} {ls ls' : Array Bool} {i n d : Nat} {o : Oper} {L : List (Nat × Value)} (hE : Env n L a) (hS : S w) (hi : ops[i]? = some o) (hs : Region.noSelect ops = true) (hf : Region.free .any ops ls i = true) (hr : (Region.ready .any ops ls).contains i = true)
    (hQ : ∀ c a w, Q (.panic c) (a.put o.dst undef) w → Q (.panic c) a w) (hls : ls.setIfInBounds i true = ls') (hw : Region.wanted o (yielded ops a.tmps) = false) (hd : o.dst = some d) (hn : Nat.blt d n = true)
    (k : ∀ a', Env n ((d, undef) :: L) a' → wpAnyH P .any ops Q S m ls' a' w) : wpAnyH P .any ops Q S (m + 1) ls a w := by
  refine wpAnyH_take hi hs hf hr hQ (.inr ⟨hw, rfl⟩) hS ?_
  rw [hls, hd]; exact k _ (hE.put hn undef)

theorem dr_one {P : Program} {ops : Array Oper} {Q : Exit → Act → World → Prop} {a : Act} {w : World} {S : World → Prop} {m : Nat} {ls ls' : Array Bool} {i : Nat} {o : Oper} (hi : ops[i]? = some o) (hr : Region.ready .any ops ls = [i]) (hls : ls.setIfInBounds i true = ls')
    (k : ∀ K : Act → World → Prop, (∀ a w, S w → wpAnyH P .any ops Q S m ls' a w → K a w) → Stp P ops Q o a w K) : wpAnyH P .any ops Q S (m + 1) ls a w := by
  subst hls
  exact wpAnyH_ready hr (by simp) (AllReadyH.cons hi (fun K hK => k K fun a w hS hW => hK.out a w hS fun _ => hW) AllReadyH.nil)

theorem dr_done {P : Program} {ops : Array Oper} {Q : Exit → Act → World → Prop} {a : Act} {w : World} {S : World → Prop} {m : Nat} {ls : Array Bool} (hr : Region.ready .any ops ls = []) (h : Q .normal a w) : wpAnyH P .any ops Q S m ls a w := wpAnyH_done hr h m

theorem cndT {P : Program} {Q : Exit → Act → World → Prop} {a : Act} {w : World} {c : Operand} {x y : Code} {t : Bool} {n : Nat} {L : List (Nat × Value)} (hE : Env n L a) (hc : ev L c = some (.bool t)) (ht : t = true) (h : x.wp P Q a w) : (Code.cond c x y).wp P Q a w := wp_cond_true (by rw [hE.ev hc, ht]) h

theorem cndF {P : Program} {Q : Exit → Act → World → Prop} {a : Act} {w : World} {c : Operand} {x y : Code} {t : Bool} {n : Nat} {L : List (Nat × Value)} (hE : Env n L a) (hc : ev L c = some (.bool t)) (ht : t = false) (h : y.wp P Q a w) : (Code.cond c x y).wp P Q a w := wp_cond_false (by rw [hE.ev hc, ht]) h

theorem blk_hit {Q : Exit → Act → World → Prop} {a : Act} {w : World} {id : Nat} (h : Q .normal a w) : Exit.inBlock id Q (.exit id) a w := by simpa [Exit.inBlock] using h

theorem lp {P : Program} {Q : Exit → Act → World → Prop} {a : Act} {w : World} {c : Code} (I : Nat → Act → World → Prop) (m : Nat) (h0 : I m a w)
    (round : ∀ m a w, I m a w → c.wp P (Exit.then (fun a' w' => ∃ m', m' < m ∧ I m' a' w') Q) a w) : (Code.loop c).wp P Q a w := wp_loop_ghost I m h0 round

def argL : Nat → List Value → List (Nat × Value)
  | _, [] => []
  | i, v :: vs => (i, v) :: argL (i + 1) vs

theorem lk_argL : ∀ (vs : List Value) (i t : Nat) (v : Value), lk t (argL i vs) = some v → i ≤ t ∧ vs[t - i]? = some v
  | [], _, _, _, h => by cases h
  | u :: vs, i, t, v, h => by
    simp only [argL, lk] at h
    by_cases e : Nat.beq t i = true
    · have e' := Nat.eq_of_beq_eq_true e
      subst e'
      simp at h; subst h
      exact ⟨Nat.le_refl _, by simp⟩
    · have e' : Nat.beq t i = false := Bool.eq_false_iff.2 e
      rw [e'] at h
      obtain ⟨h1, h2⟩ := lk_argL vs (i + 1) t v h
      refine ⟨by omega, ?_⟩
      rw [show t - i = (t - (i + 1)) + 1 from by omega, List.getElem?_cons_succ]; exact h2

theorem enter {P : Program} {f : FuncId} {fn : Func} {c : Code} {vs : List Value} {w : World} {R : Ending → World → Prop} {n : Nat} (hf : P.funcs[f]? = some fn) (hb : fn.body = some c) (hn : fn.ntmps = n) (hl : Nat.ble vs.length n = true)
    (k : ∀ a, Env n (argL 0 vs) a → c.wp P (bodyPost P fn R) a w) : Calls P f vs.toArray w R := by
  refine calls_of_wp hf hb (k _ ?_)
  rw [hn]
  refine Env.start (fun t v h => ?_) (Nat.le_of_ble_eq_true hl)
  have := (lk_argL vs 0 t v h).2
  simpa using this

def resSem (tmps : Array Value) : ResultVar → Sem Value
  | .tmp t => pure (tmps.getD t undef)
  | .cell a t => do loadVar t (← asAddr (tmps.getD a undef))

theorem results_eq (fn : Func) (tmps : Array Value) : results fn tmps = (do let vs ← fn.results.mapM (resSem tmps); pure (if h : vs.size = 1 then vs[0] else .tuple vs)) := by
  unfold results
  have : (fun r => match r with | ResultVar.tmp t => (pure (tmps.getD t undef) : Sem Value) | ResultVar.cell a t => do loadVar t (← asAddr (tmps.getD a undef))) = resSem tmps := by
    funext r; cases r <;> rfl
  rw [← this]; rfl

/-- What one result is. -/
def RV (P : Program) (w : World) (L : List (Nat × Value)) (r : ResultVar) (v : Value) : Prop :=
  ∀ (n : Nat) (a : Act), Env n L a → (resSem a.tmps r).run P w = .ok v w

theorem rv_tmp {P : Program} {w : World} {L : List (Nat × Value)} {t : Nat} {v : Value} (h : lk t L = some v) : RV P w L (.tmp t) v := fun _ _ hE => by
  show (Sem.pure _).run P w = _
  rw [hE.get t v h]; rfl

theorem ret1 {P : Program} {fn : Func} {R : Ending → World → Prop} {a : Act} {w : World} {n : Nat} {L : List (Nat × Value)} {r1 : ResultVar} {v1 : Value} (hE : Env n L a) (hr : fn.results = #[r1]) (h1 : RV P w L r1 v1) (hR : R (.returned v1) w) : bodyPost P fn R .ret a w := by
  refine ⟨hE.defers, v1, ?_, hR⟩
  rw [results_eq, hr]
  have h1 := h1 n a hE
  generalize resSem a.tmps = F at *
  simp [h1]

theorem ret2 {P : Program} {fn : Func} {R : Ending → World → Prop} {a : Act} {w : World} {n : Nat} {L : List (Nat × Value)} {r1 r2 : ResultVar} {v1 v2 : Value} (hE : Env n L a) (hr : fn.results = #[r1, r2]) (h1 : RV P w L r1 v1) (h2 : RV P w L r2 v2) (hR : R (.returned (.tuple #[v1, v2])) w) : bodyPost P fn R .ret a w := by
  refine ⟨hE.defers, _, ?_, hR⟩
  rw [results_eq, hr]
  have h1 := h1 n a hE
  have h2 := h2 n a hE
  generalize resSem a.tmps = F at *
  simp [h1, h2]

theorem ret3 {P : Program} {fn : Func} {R : Ending → World → Prop} {a : Act} {w : World} {n : Nat} {L : List (Nat × Value)} {r1 r2 r3 : ResultVar} {v1 v2 v3 : Value} (hE : Env n L a) (hr : fn.results = #[r1, r2, r3]) (h1 : RV P w L r1 v1) (h2 : RV P w L r2 v2) (h3 : RV P w L r3 v3) (hR : R (.returned (.tuple #[v1, v2, v3])) w) : bodyPost P fn R .ret a w := by
  refine ⟨hE.defers, _, ?_, hR⟩
  rw [results_eq, hr]
  have h1 := h1 n a hE
  have h2 := h2 n a hE
  have h3 := h3 n a hE
  generalize resSem a.tmps = F at *
  simp [h1, h2, h3]

theorem nrm {next : Act → World → Prop} {Q : Exit → Act → World → Prop} {a : Act} {w : World} (h : next a w) : Exit.then next Q .normal a w := h

theorem thn_ret {next : Act → World → Prop} {Q : Exit → Act → World → Prop} {a : Act} {w : World} (h : Q .ret a w) : Exit.then next Q .ret a w := h

theorem thn_exit {next : Act → World → Prop} {Q : Exit → Act → World → Prop} {a : Act} {w : World} {id : Nat} (h : Q (.exit id) a w) : Exit.then next Q (.exit id) a w := h

theorem blk_n {Q : Exit → Act → World → Prop} {a : Act} {w : World} {id : Nat} (h : Q .normal a w) : Exit.inBlock id Q .normal a w := h

theorem blk_ret {Q : Exit → Act → World → Prop} {a : Act} {w : World} {id : Nat} (h : Q .ret a w) : Exit.inBlock id Q .ret a w := h

theorem cnd_b {P : Program} {Q : Exit → Act → World → Prop} {a : Act} {w : World} {c : Operand} {x y : Code} {t : Bool} {n : Nat} {L : List (Nat × Value)} (hE : Env n L a) (hc : ev L c = some (.bool t)) (ht : t = true → x.wp P Q a w) (hf : t = false → y.wp P Q a w) : (Code.cond c x y).wp P Q a w := wp_cond_split (hE.ev hc) ht hf

theorem cnd_nb {P : Program} {Q : Exit → Act → World → Prop} {a : Act} {w : World} {c : Operand} {x y : Code} {t : Bool} {n : Nat} {L : List (Nat × Value)} (hE : Env n L a) (hc : ev L c = some (.bool !t)) (ht : t = false → x.wp P Q a w) (hf : t = true → y.wp P Q a w) : (Code.cond c x y).wp P Q a w := wp_cond_split (hE.ev hc) (fun h => ht (by simpa using h)) (fun h => hf (by simpa using h))

theorem cnd_d {P : Program} {Q : Exit → Act → World → Prop} {a : Act} {w : World} {c : Operand} {x y : Code} {p : Prop} [Decidable p] {n : Nat} {L : List (Nat × Value)} (hE : Env n L a) (hc : ev L c = some (.bool (decide p))) (ht : p → x.wp P Q a w) (hf : ¬ p → y.wp P Q a w) : (Code.cond c x y).wp P Q a w := wp_cond_split (hE.ev hc) (fun h => ht (of_decide_eq_true h)) (fun h => hf (of_decide_eq_false h))

theorem cnd_e {P : Program} {Q : Exit → Act → World → Prop} {a : Act} {w : World} {c : Operand} {x y : Code} {m k : Int} {n : Nat} {L : List (Nat × Value)} (hE : Env n L a) (hc : ev L c = some (.bool (m == k))) (ht : m = k → x.wp P Q a w) (hf : ¬ m = k → y.wp P Q a w) : (Code.cond c x y).wp P Q a w := wp_cond_split (hE.ev hc) (fun h => ht (by simpa using h)) (fun h => hf (by simpa using h))

theorem cnd_ne {P : Program} {Q : Exit → Act → World → Prop} {a : Act} {w : World} {c : Operand} {x y : Code} {m k : Int} {n : Nat} {L : List (Nat × Value)} (hE : Env n L a) (hc : ev L c = some (.bool (m != k))) (ht : ¬ m = k → x.wp P Q a w) (hf : m = k → y.wp P Q a w) : (Code.cond c x y).wp P Q a w := wp_cond_split (hE.ev hc) (fun h => ht (by simpa using h)) (fun h => hf (by simpa using h))

theorem beq_t {m k : Int} (h : m = k) : (m == k) = true := by simp [h]

theorem beq_f {m k : Int} (h : ¬ m = k) : (m == k) = false := by simp [h]

theorem bne_f {m k : Int} (h : m = k) : (m != k) = false := by simp [h]

theorem not_t {b : Bool} (h : b = false) : (!b) = true := by simp [h]

theorem not_f {b : Bool} (h : b = true) : (!b) = false := by simp [h]

theorem pl {P : Program} {ops : Array Oper} {Q : Exit → Act → World → Prop} {o : Oper} {rest : List Oper} {a : Act} {w : World} (h : ∀ K : Act → World → Prop, (∀ a w, wpList P ops Q rest a w → K a w) → Stp P ops Q o a w K) : wpList P ops Q (o :: rest) a w := wpList_step h

theorem pl_x {P : Program} {S : World → Prop} {ops : Array Oper} {Q : Exit → Act → World → Prop} {o : Oper} {rest : List Oper} {a : Act} {w : World} {n d : Nat} {L : List (Nat × Value)} {v : Value} (hE : Env n L a) (hS : S w) (hw : Region.wanted o (yielded ops a.tmps) = true) (hx : XS P S L o v) (hd : o.dst = some d) (hn : Nat.blt d n = true)
    (k : ∀ a', Env n ((d, v) :: L) a' → wpList P ops Q rest a' w) : wpList P ops Q (o :: rest) a w := pl fun _ hK => st_x hE hS hw hx hd hn fun a' hE' => hK _ _ (k a' hE')

theorem pl_no {P : Program} {ops : Array Oper} {Q : Exit → Act → World → Prop} {o : Oper} {rest : List Oper} {a : Act} {w : World} {n d : Nat} {L : List (Nat × Value)} (hE : Env n L a) (hw : Region.wanted o (yielded ops a.tmps) = false) (hd : o.dst = some d) (hn : Nat.blt d n = true)
    (k : ∀ a', Env n ((d, undef) :: L) a' → wpList P ops Q rest a' w) : wpList P ops Q (o :: rest) a w := pl fun _ hK => st_no hE hw hd hn fun a' hE' => hK _ _ (k a' hE')

theorem x_move {P : Program} {S : World → Prop} {L : List (Nat × Value)} {d : Option Tmp} {x : Operand} {v : Value} {ty : TypeId} {pos : String} {af : Array Edge} {g : Option (Nat × Bool)} (hx : ev L x = some v) : XS P S L ⟨d, .move x, ty, pos, af, g⟩ v := fun _ _ _ hE _ => by simp [execOp, hE.ev hx]

theorem x_assign {P : Program} {S : World → Prop} {L : List (Nat × Value)} {d : Option Tmp} {x : Operand} {v : Value} {ty : TypeId} {pos : String} {af : Array Edge} {g : Option (Nat × Bool)} (hx : ev L x = some v) : XS P S L ⟨d, .assign x, ty, pos, af, g⟩ v := fun _ _ _ hE _ => by simp [execOp, hE.ev hx]

theorem x_pickT {P : Program} {S : World → Prop} {L : List (Nat × Value)} {d : Option Tmp} {c x y : Operand} {b : Bool} {v : Value} {ty : TypeId} {pos : String} {af : Array Edge} {g : Option (Nat × Bool)} (hc : ev L c = some (.bool b)) (hb : b = true) (hx : ev L x = some v) : XS P S L ⟨d, .pick c x y, ty, pos, af, g⟩ v := fun _ _ _ hE _ => by subst hb; simp [execOp, hE.ev hx, hE.ev hc, asBool]

theorem x_pickF {P : Program} {S : World → Prop} {L : List (Nat × Value)} {d : Option Tmp} {c x y : Operand} {b : Bool} {v : Value} {ty : TypeId} {pos : String} {af : Array Edge} {g : Option (Nat × Bool)} (hc : ev L c = some (.bool b)) (hb : b = false) (hy : ev L y = some v) : XS P S L ⟨d, .pick c x y, ty, pos, af, g⟩ v := fun _ _ _ hE _ => by subst hb; simp [execOp, hE.ev hy, hE.ev hc, asBool]

theorem x_not {P : Program} {S : World → Prop} {L : List (Nat × Value)} {d : Option Tmp} {t : TypeId} {x : Operand} {b : Bool} {ty : TypeId} {pos : String} {af : Array Edge} {g : Option (Nat × Bool)} (hx : ev L x = some (.bool b)) : XS P S L ⟨d, .unOp .not t x, ty, pos, af, g⟩ (.bool !b) := fun _ _ _ hE _ => by simp [execOp, hE.ev hx, Op.unary]

theorem x_add {P : Program} {S : World → Prop} {L : List (Nat × Value)} {d : Option Tmp} {t t' : TypeId} {x y : Operand} {m k : Int} {ty : TypeId} {pos : String} {af : Array Edge} {g : Option (Nat × Bool)} (hx : ev L x = some (.int .i64 m)) (hy : ev L y = some (.int .i64 k)) (h : I64 (m + k)) : XS P S L ⟨d, .binOp .add t x y t', ty, pos, af, g⟩ (.int .i64 (m + k)) := fun _ _ _ hE _ => by
  have e : IntKind.i64.wrap (m + k) = m + k := IntWalk.i64_in _ (by unfold I64 at h; omega)
  simp only [execOp, hE.ev hx, hE.ev hy, eqGuard, binOp, Op.intArith, e]; rfl

theorem x_sub {P : Program} {S : World → Prop} {L : List (Nat × Value)} {d : Option Tmp} {t t' : TypeId} {x y : Operand} {m k : Int} {ty : TypeId} {pos : String} {af : Array Edge} {g : Option (Nat × Bool)} (hx : ev L x = some (.int .i64 m)) (hy : ev L y = some (.int .i64 k)) (h : I64 (m - k)) : XS P S L ⟨d, .binOp .sub t x y t', ty, pos, af, g⟩ (.int .i64 (m - k)) := fun _ _ _ hE _ => by
  have e : IntKind.i64.wrap (m - k) = m - k := IntWalk.i64_in _ (by unfold I64 at h; omega)
  simp only [execOp, hE.ev hx, hE.ev hy, eqGuard, binOp, Op.intArith, e]; rfl

theorem x_mul {P : Program} {S : World → Prop} {L : List (Nat × Value)} {d : Option Tmp} {t t' : TypeId} {x y : Operand} {m k : Int} {ty : TypeId} {pos : String} {af : Array Edge} {g : Option (Nat × Bool)} (hx : ev L x = some (.int .i64 m)) (hy : ev L y = some (.int .i64 k)) (h : I64 (m * k)) : XS P S L ⟨d, .binOp .mul t x y t', ty, pos, af, g⟩ (.int .i64 (m * k)) := fun _ _ _ hE _ => by
  have e : IntKind.i64.wrap (m * k) = m * k := IntWalk.i64_in _ (by unfold I64 at h; omega)
  simp only [execOp, hE.ev hx, hE.ev hy, eqGuard, binOp, Op.intArith, e]; rfl

theorem x_quo {P : Program} {S : World → Prop} {L : List (Nat × Value)} {d : Option Tmp} {t t' : TypeId} {x y : Operand} {m k : Int} {ty : TypeId} {pos : String} {af : Array Edge} {g : Option (Nat × Bool)} (hx : ev L x = some (.int .i64 m)) (hy : ev L y = some (.int .i64 k)) (h0 : 0 ≤ m) (h1 : m ≤ 9223372036854775807) (hk : 0 < k) : XS P S L ⟨d, .binOp .quo t x y t', ty, pos, af, g⟩ (.int .i64 (m / k)) := fun _ _ _ hE _ => by
  have e1 : m.tdiv k = m / k := Int.tdiv_eq_ediv_of_nonneg h0
  have e2 : 0 ≤ m / k := Int.ediv_nonneg h0 (by omega)
  have e3 : m / k ≤ m := Int.ediv_le_self k h0
  have e : IntKind.i64.wrap (m / k) = m / k := IntWalk.i64_in _ (by omega)
  have e4 : ¬ k = 0 := by omega
  simp only [execOp, hE.ev hx, hE.ev hy, eqGuard, binOp, Op.intDiv, e1, e, e4, if_false]; rfl

theorem x_rem {P : Program} {S : World → Prop} {L : List (Nat × Value)} {d : Option Tmp} {t t' : TypeId} {x y : Operand} {m k : Int} {ty : TypeId} {pos : String} {af : Array Edge} {g : Option (Nat × Bool)} (hx : ev L x = some (.int .i64 m)) (hy : ev L y = some (.int .i64 k)) (h0 : 0 ≤ m) (hk : 0 < k) : XS P S L ⟨d, .binOp .rem t x y t', ty, pos, af, g⟩ (.int .i64 (m % k)) := fun _ _ _ hE _ => by
  have e1 : m.tmod k = m % k := Int.tmod_eq_emod_of_nonneg h0
  have e4 : ¬ k = 0 := by omega
  simp only [execOp, hE.ev hx, hE.ev hy, eqGuard, binOp, Op.intDiv, e1, e4, if_false]; rfl

theorem x_lss {P : Program} {S : World → Prop} {L : List (Nat × Value)} {d : Option Tmp} {t t' : TypeId} {x y : Operand} {q : IntKind} {m k : Int} {ty : TypeId} {pos : String} {af : Array Edge} {g : Option (Nat × Bool)} (hx : ev L x = some (.int q m)) (hy : ev L y = some (.int q k)) : XS P S L ⟨d, .binOp .lss t x y t', ty, pos, af, g⟩ (.bool (decide (m < k))) := fun _ _ _ hE _ => by
  simp [execOp, hE.ev hx, hE.ev hy, eqGuard, binOp, Op.intCmp]

theorem x_leq {P : Program} {S : World → Prop} {L : List (Nat × Value)} {d : Option Tmp} {t t' : TypeId} {x y : Operand} {q : IntKind} {m k : Int} {ty : TypeId} {pos : String} {af : Array Edge} {g : Option (Nat × Bool)} (hx : ev L x = some (.int q m)) (hy : ev L y = some (.int q k)) : XS P S L ⟨d, .binOp .leq t x y t', ty, pos, af, g⟩ (.bool (decide (m ≤ k))) := fun _ _ _ hE _ => by
  simp [execOp, hE.ev hx, hE.ev hy, eqGuard, binOp, Op.intCmp]

theorem x_gtr {P : Program} {S : World → Prop} {L : List (Nat × Value)} {d : Option Tmp} {t t' : TypeId} {x y : Operand} {q : IntKind} {m k : Int} {ty : TypeId} {pos : String} {af : Array Edge} {g : Option (Nat × Bool)} (hx : ev L x = some (.int q m)) (hy : ev L y = some (.int q k)) : XS P S L ⟨d, .binOp .gtr t x y t', ty, pos, af, g⟩ (.bool (decide (k < m))) := fun _ _ _ hE _ => by
  simp [execOp, hE.ev hx, hE.ev hy, eqGuard, binOp, Op.intCmp]

theorem x_geq {P : Program} {S : World → Prop} {L : List (Nat × Value)} {d : Option Tmp} {t t' : TypeId} {x y : Operand} {q : IntKind} {m k : Int} {ty : TypeId} {pos : String} {af : Array Edge} {g : Option (Nat × Bool)} (hx : ev L x = some (.int q m)) (hy : ev L y = some (.int q k)) : XS P S L ⟨d, .binOp .geq t x y t', ty, pos, af, g⟩ (.bool (decide (k ≤ m))) := fun _ _ _ hE _ => by
  simp [execOp, hE.ev hx, hE.ev hy, eqGuard, binOp, Op.intCmp]

theorem x_eql {P : Program} {S : World → Prop} {L : List (Nat × Value)} {d : Option Tmp} {t t' : TypeId} {x y : Operand} {q : IntKind} {m k : Int} {ty : TypeId} {pos : String} {af : Array Edge} {g : Option (Nat × Bool)} (hx : ev L x = some (.int q m)) (hy : ev L y = some (.int q k)) : XS P S L ⟨d, .binOp .eql t x y t', ty, pos, af, g⟩ (.bool (m == k)) := fun _ _ _ hE _ => by
  simp [execOp, hE.ev hx, hE.ev hy, eqGuard, binOp, Op.intCmp]

theorem x_neq {P : Program} {S : World → Prop} {L : List (Nat × Value)} {d : Option Tmp} {t t' : TypeId} {x y : Operand} {q : IntKind} {m k : Int} {ty : TypeId} {pos : String} {af : Array Edge} {g : Option (Nat × Bool)} (hx : ev L x = some (.int q m)) (hy : ev L y = some (.int q k)) : XS P S L ⟨d, .binOp .neq t x y t', ty, pos, af, g⟩ (.bool (m != k)) := fun _ _ _ hE _ => by
  simp [execOp, hE.ev hx, hE.ev hy, eqGuard, binOp, Op.intCmp]

theorem x_extract {P : Program} {S : World → Prop} {L : List (Nat × Value)} {d : Option Tmp} {x : Operand} {i : Nat} {vs : List Value} {v : Value} {ty : TypeId} {pos : String} {af : Array Edge} {g : Option (Nat × Bool)} (hx : ev L x = some (.tuple vs.toArray)) (hi : vs[i]? = some v) : XS P S L ⟨d, .extract x i, ty, pos, af, g⟩ v := fun _ _ _ hE _ => by
  simp [execOp, hE.ev hx, Instr.extract, hi]

theorem x_len {P : Program} {S : World → Prop} {L : List (Nat × Value)} {d : Option Tmp} {x : Operand} {t e : TypeId} {A : Option Addr} {n c : Nat} {ty : TypeId} {pos : String} {af : Array Edge} {g : Option (Nat × Bool)} (ht : P.underlying t = some (.slice e)) (hx : ev L x = some (.slice A n c)) : XS P S L ⟨d, .call { callee := .builtin .len, args := #[x], argTypes := #[t] }, ty, pos, af, g⟩ (.int .i64 n) := fun _ _ _ hE _ => by
  simp [execOp, resolve, invoke, builtin, Builtin.len_, run_underlying ht, hE.ev hx, goInt]

/-- What is known of a slice type. -/
structure TSl (P : Program) (t e : TypeId) (sz bytes : Nat) : Prop where
  under : P.underlying t = some (.slice e)
  info : ∃ i z, P.info? e = some i ∧ i.zero = some z ∧ i.size = sz ∧ i.bytes = bytes ∧ z.cells.size = sz

theorem x_indexAddr {P : Program} {S : World → Prop} {L : List (Nat × Value)} {d : Option Tmp} {x y : Operand} {t e : TypeId} {sz by_ : Nat} {A : Option Addr} {n c b off k : Nat} {q : IntKind} {m : Int} {ty : TypeId} {pos : String} {af : Array Edge} {g : Option (Nat × Bool)} (ht : TSl P t e sz by_) (hx : ev L x = some (.slice A n c)) (hy : ev L y = some (.int q m)) (hA : A = some ⟨b, off, none⟩) (hm : m = (k : Int)) (hk : k < n) : XS P S L ⟨d, .indexAddr t x y, ty, pos, af, g⟩ (.pointer (some ⟨b, off + k * sz, none⟩)) := fun _ _ w hE _ => by
  obtain ⟨i, z, h1, _, h2, _⟩ := ht.info
  subst hA hm h2
  have h3 : (0 : Int) ≤ (k : Int) ∧ (k : Int) < (n : Int) := by omega
  simp [execOp, hE.ev hx, hE.ev hy, Instr.indexAt, asIntOf, run_underlying ht.under, sizeOf, typeInfo, h1, hk, add_none]

def isAggD : TypeDesc → Bool
  | .struct _ => true
  | .array _ _ => true
  | _ => false

/-- What is known of a variable's type: its cells, what they hold at first. -/
structure TV (P : Program) (t : TypeId) (agg : Bool) (zs : List Value) : Prop where
  under : ∃ d, P.underlying t = some d ∧ isAggD d = agg
  info : ∃ i z, P.info? t = some i ∧ i.zero = some z ∧ i.size = zs.length ∧ z.cells = zs.toArray

theorem TV.isAgg {P : Program} {t : TypeId} {agg : Bool} {zs : List Value} (h : TV P t agg zs) (w : World) : (Go.isAgg t).run P w = .ok agg w := by
  obtain ⟨d, h1, h2⟩ := h.under
  subst h2
  unfold Go.isAgg
  cases d <;> simp [run_underlying h1, isAggD]

theorem TV.load1 {P : Program} {t : TypeId} {zs : List Value} (h : TV P t false zs) {p : Addr} {w : World} {v : Value} (hc : w.cell? p = some v) : (loadVar t p).run P w = .ok v w := by
  unfold loadVar
  simp [h.isAgg w, hc]

theorem run_loadCellsFrom {P : Program} {w : World} {b o : Nat} : ∀ (cs : List Value) (i : Nat) (acc : Array Value), (∀ j v, cs[j]? = some v → w.cell? ⟨b, o + (i + j), none⟩ = some v) → (loadCellsFrom ⟨b, o, none⟩ i cs.length acc).run P w = .ok (acc ++ cs.toArray) w
  | [], i, acc, _ => by simp [loadCellsFrom]
  | v :: cs, i, acc, h => by
    have h0 := h 0 v rfl
    rw [Nat.add_zero] at h0
    have ih := run_loadCellsFrom (P := P) cs (i + 1) (acc.push v) fun j u hu => by
      have := h (j + 1) u (by simpa using hu)
      rw [show i + (j + 1) = i + 1 + j from by omega] at this; exact this
    rw [List.length_cons]
    simp only [loadCellsFrom, Go.load, add_none, Sem.run_bind, Sem.run, h0, Result.andThen_ok, ih]
    simp

theorem TV.loadN {P : Program} {t : TypeId} {zs cs : List Value} (h : TV P t true zs) {b o : Nat} {w : World} (hl : cs.length = zs.length) (hc : ∀ j v, cs[j]? = some v → w.cell? ⟨b, o + j, none⟩ = some v) : (loadVar t ⟨b, o, none⟩).run P w = .ok (.agg cs.toArray) w := by
  obtain ⟨i, z, h1, h2, h3, h4⟩ := h.info
  have hL := run_loadCellsFrom (P := P) (w := w) (b := b) (o := o) cs 0 #[] (fun j v hv => by rw [Nat.zero_add]; exact hc j v hv)
  unfold loadVar loadCells
  simp only [Sem.run_bind, h.isAgg w, Result.andThen_ok, sizeOf, typeInfo]
  simp [h1, h3, ← hl, hL]

theorem x_load1 {P : Program} {S : World → Prop} {L : List (Nat × Value)} {d : Option Tmp} {x : Operand} {t : TypeId} {zs : List Value} {p : Addr} {v : Value} {ty : TypeId} {pos : String} {af : Array Edge} {g : Option (Nat × Bool)} (ht : TV P t false zs) (hx : ev L x = some (.pointer (some p))) (hc : ∀ w, S w → w.cell? p = some v) : XS P S L ⟨d, .load t x, ty, pos, af, g⟩ v := fun _ _ w hE hS => by
  simp [execOp, hE.ev hx, Instr.loadAt, Instr.sureAddr, ht.load1 (hc w hS)]

/-- What a held block's cell holds. -/
theorem c_blk {M : Nat → Prop} {w0 : World} {rs : List Res} {g : Nat} {t : TypeId} {cs : List Value} {v : Value} {o : Nat} (i : Nat) (hi : rs[i]? = some (rBlk g t cs)) (hv : cs[o]? = some v) : ∀ w, Held M w0 rs w → w.cell? ⟨g, o, none⟩ = some v := fun w h => by
  have h1 : Blk w g t cs.toArray := h.get hi
  rw [h1.cell]; simpa using hv

theorem c_blkN {M : Nat → Prop} {w0 : World} {rs : List Res} {g : Nat} {t : TypeId} {cs : List Value} (i : Nat) (hi : rs[i]? = some (rBlk g t cs)) : ∀ w, Held M w0 rs w → ∀ j v, cs[j]? = some v → w.cell? ⟨g, 0 + j, none⟩ = some v := fun w h j v hv => by
  rw [Nat.zero_add]; exact c_blk i hi hv w h

/-- What a cell held at the start. -/
theorem c_old {w0 : World} {rs : List Res} {b o : Nat} {v : Value} (hc : w0.cell? ⟨b, o, none⟩ = some v) : ∀ w, Held Nob w0 rs w → w.cell? ⟨b, o, none⟩ = some v := fun w h => by
  rw [h.cell0 (lt_of_cell hc) fun h => h]; exact hc

/-- An element of a slice that was there at the start. -/
theorem el_old {w0 : World} {α : Type} {E : Enc α} {A : Option Addr} {c : Nat} {xs : List α} (h : Sl E w0 (Old w0) A c xs) {k : Nat} (hk : k < xs.length) :
    ∃ b off es, A = some ⟨b, off, none⟩ ∧ E.R w0 (Old w0) es xs[k] ∧ ∀ j v, es[j]? = some v → w0.cell? ⟨b, off + k * E.size + j, none⟩ = some v := by
  obtain ⟨b, off, es, h1, _, h2, h3⟩ := h.at hk
  exact ⟨b, off, es, h1, h2, h3⟩

/-- A slice literal. -/
theorem st_lit {P : Program} {ops : Array Oper} {Q : Exit → Act → World → Prop} {o : Oper} {a : Act} {w : World} {K : Act → World → Prop} {n d m : Nat} {L : List (Nat × Value)} {M : Nat → Prop} {w0 : World} {rs : List Res} {e : TypeId} {cs : List Value} (hE : Env n L a) (hH : Held M w0 rs w)
    (hr : (execOp a.eval o).run P w = .ok (.value (.slice (some ⟨w.heap.size, 0, none⟩) m m)) (w.alloc (.cells cs.toArray e))) (hw : Region.wanted o (yielded ops a.tmps) = true) (hd : o.dst = some d) (hn : Nat.blt d n = true)
    (k : ∀ q a' w', Env n ((d, .slice (some ⟨q, 0, none⟩) m m) :: L) a' → Held M w0 (rBlk q e cs :: rs) w' → K a' w') : Stp P ops Q o a w K :=
  st_val hE hw hr hd hn fun a' hE' => k _ a' _ hE' (hH.alloc e cs)

/-- A row of elements: the cells of each, and the blocks that each owns. -/
def Vec {α : Type} (E : Enc α) (t : TypeId) (w : World) (S : Nat → Prop) (v : Value) (xs : List α) : Prop :=
  ∃ (css : List (List Value)) (T : Nat → Nat → Prop), css.length = xs.length ∧ w.ownsRow 0 t E.size v xs.length css.flatten ∧ (∀ b, v.ownBlock = some b → S b) ∧ (∀ i b, T i b → S b ∧ v.ownBlock ≠ some b) ∧ (∀ i j b, T i b → T j b → i = j) ∧
    ∀ (i : Nat) (x : α), xs[i]? = some x → ∃ es, css[i]? = some es ∧ E.O w (T i) es x

theorem ownsRow_keep {w w' : World} {base : Nat} {t : TypeId} {size : Nat} {v : Value} {n : Nat} {xs : List Value} (h : w.ownsRow base t size v n xs) (hk : ∀ b, v.ownBlock = some b → w'.heap[b]? = w.heap[b]?) : w'.ownsRow base t size v n xs := by
  refine ⟨h.1, ?_⟩
  rcases h.2 with h2 | ⟨g, cap, cur, rfl, hg, hh, r⟩
  · exact .inl h2
  · exact .inr ⟨g, cap, cur, rfl, hg, (hk g rfl).trans hh, r⟩

theorem Vec.keep {α : Type} {E : Enc α} {t : TypeId} {w w' : World} {S : Nat → Prop} {v : Value} {xs : List α} (h : Vec E t w S v xs) (hk : ∀ b, S b → w'.heap[b]? = w.heap[b]?) : Vec E t w' S v xs := by
  obtain ⟨css, T, h1, h2, h3, h4, h5, h6⟩ := h
  refine ⟨css, T, h1, ownsRow_keep h2 fun b hb => hk b (h3 b hb), h3, h4, h5, fun i x hx => ?_⟩
  obtain ⟨es, h7, h8⟩ := h6 i x hx
  exact ⟨es, h7, E.okeep h8 fun b hb => hk b (h4 i b hb).1⟩

def rVec {α : Type} (E : Enc α) (t : TypeId) (S : Nat → Prop) (A : Option Addr) (c : Nat) (xs : List α) : Res :=
  ⟨S, fun w => Vec E t w S (.slice A xs.length c) xs, fun _ _ h hv => hv.keep h⟩

theorem Held.vecNil {M : Nat → Prop} {w0 : World} {rs : List Res} {w : World} (h : Held M w0 rs w) {α : Type} (E : Enc α) (t : TypeId) : Held M w0 (rVec E t Nob none 0 [] :: rs) w :=
  h.new (Below.refl _ _) (rVec E t Nob none 0 []) ⟨[], fun _ _ => False, rfl, World.ownsRow_nil _ _ _ _, (fun b hb => by cases hb), fun _ _ h => h.elim, fun _ _ _ h => h.elim, fun i x hx => by simp at hx⟩ fun _ h => h.elim

/-- A block with the cells of flat elements is a row of them. -/
theorem Held.vecFlat {M : Nat → Prop} {w0 : World} {g : Nat} {t : TypeId} {rs : List Res} {w : World} {α : Type} {E : Enc α} {xs : List α} {css : List (List Value)} (h : Held M w0 (rBlk g t css.flatten :: rs) w) (hl : css.length = xs.length) (hm : xs.length ≤ maxLen) (hO : ∀ (i : Nat) (x : α), xs[i]? = some x → ∃ es, css[i]? = some es ∧ ∀ W, E.O W Nob es x) : Held M w0 (rVec E t (fun b => b = g) (some ⟨g, 0, none⟩) xs.length xs :: rs) w := by
  have hfl : css.flatten.length = xs.length * E.size := by
    have key : ∀ (css : List (List Value)) (xs : List α), css.length = xs.length → (∀ (i : Nat) (x : α), xs[i]? = some x → ∃ es, css[i]? = some es ∧ ∀ W, E.O W Nob es x) → css.flatten.length = xs.length * E.size := by
      intro css
      induction css with
      | nil => intro xs hl _; simp at hl; simp [hl.symm]
      | cons e css ih =>
        intro xs hl hO
        rcases xs with _ | ⟨x, xs⟩
        · simp at hl
        · obtain ⟨es, h1, h2⟩ := hO 0 x rfl
          simp at h1; subst h1
          rw [List.flatten_cons, List.length_append, ih xs (by simpa using hl) (fun i y hy => by simpa using hO (i + 1) y (by simpa using hy)), E.len (E.read (h2 default)), List.length_cons, Nat.succ_mul]; omega
    exact key css xs hl hO
  refine h.turn _ (fun hB => ⟨css, fun _ _ => False, hl, ⟨hfl, .inr ⟨g, xs.length, css.flatten.toArray, rfl, Nat.zero_le _, hB, Nat.le_refl _, hm, by simpa using hfl, ?_⟩⟩, (fun b hb => by simpa [Value.ownBlock] using hb.symm), fun _ _ h => h.elim, fun _ _ _ h => h.elim, fun i x hx => ?_⟩) fun _ hb => hb
  · rw [← hfl]; exact List.take_length
  · obtain ⟨es, h1, h2⟩ := hO i x hx
    exact ⟨es, h1, E.omore (h2 w) fun _ h => h.elim⟩

theorem flatten_at (s : Nat) : ∀ (css : List (List Value)), (∀ es ∈ css, es.length = s) → ∀ (i : Nat) (es : List Value), css[i]? = some es → ∀ j, j < s → css.flatten[i * s + j]? = es[j]?
  | [], _, i, es, hx, _, _ => by simp at hx
  | e :: css, h, 0, es, hx, j, hj => by
    simp at hx; subst hx
    rw [List.flatten_cons, Nat.zero_mul, Nat.zero_add, List.getElem?_append_left (by rw [h e (by simp)]; exact hj)]
  | e :: css, h, i + 1, es, hx, j, hj => by
    have hy := h e (by simp)
    rw [List.flatten_cons, Nat.succ_mul, List.getElem?_append_right (by rw [hy]; omega), hy, show i * s + s + j - s = i * s + j from by omega]
    exact flatten_at s css (fun z hz => h z (by simp [hz])) i es (by simpa using hx) j hj

theorem Vec.so {α : Type} {E : Enc α} {t : TypeId} {w : World} {S : Nat → Prop} {A : Option Addr} {c : Nat} {xs : List α} (h : Vec E t w S (.slice A xs.length c) xs) : So E w S A c xs := by
  obtain ⟨css, T, h1, h2, h3, h4, h5, h6⟩ := h
  rcases h2.2 with ⟨he, hn⟩ | ⟨g, cap, cur, he, hg, hh, hnc, hcm, hcs, htk⟩
  · have hx : xs = [] := List.eq_nil_of_length_eq_zero hn
    subst hx
    simp only [Value.slice.injEq] at he
    obtain ⟨rfl, _, rfl⟩ := he
    exact So.nil (Nat.zero_le _)
  · simp only [Value.slice.injEq, true_and] at he
    obtain ⟨rfl, rfl⟩ := he
    refine ⟨hnc, hcm, fun _ => ⟨g, 0, t, cur, T, rfl, h3 g rfl, hh, fun i k hk => ⟨(h4 i k hk).1, fun e => (h4 i k hk).2 (by rw [e]; rfl)⟩, h5, fun i x hx => ?_⟩⟩
    obtain ⟨es, h7, h8⟩ := h6 i x hx
    refine ⟨es, h8, fun j u hu => ?_⟩
    have hi := (List.getElem?_eq_some_iff.1 hx).1
    have hj := (List.getElem?_eq_some_iff.1 hu).1
    have hl : ∀ es ∈ css, es.length = E.size := fun es hes => by
      obtain ⟨m, hm, rfl⟩ := List.getElem_of_mem hes
      obtain ⟨es', h9, h10⟩ := h6 m xs[m] (List.getElem?_eq_getElem (by omega))
      rw [List.getElem?_eq_getElem hm] at h9
      simp at h9; rw [h9]; exact E.len (E.read h10)
    rw [hl es (List.mem_of_getElem? h7)] at hj
    have h9 := flatten_at E.size css hl i es h7 j hj
    rw [← htk] at h9
    have hlt : i * E.size + j < xs.length * E.size := by
      have : (i + 1) * E.size ≤ xs.length * E.size := Nat.mul_le_mul_right _ (by omega)
      rw [Nat.succ_mul] at this; omega
    rw [List.getElem?_take_of_lt hlt, Array.getElem?_toList] at h9
    rw [Nat.zero_add, h9]; exact hu

theorem Held.vecSo {M : Nat → Prop} {w0 : World} {rs : List Res} {w : World} {α : Type} {E : Enc α} {t : TypeId} {S : Nat → Prop} {A : Option Addr} {c : Nat} {xs : List α} (h : Held M w0 (rVec E t S A c xs :: rs) w) : Held M w0 (rSo E S A c xs :: rs) w :=
  h.turn _ (fun hv => oSl (Vec.so hv)) fun _ hb => hb

theorem Held.vecSl {M : Nat → Prop} {w0 : World} {rs : List Res} {w : World} {α : Type} {E : Enc α} {t : TypeId} {S : Nat → Prop} {A : Option Addr} {c : Nat} {xs : List α} (h : Held M w0 rs w) {i : Nat} (hi : rs[i]? = some (rVec E t S A c xs)) : Sl E w (Old w) A c xs :=
  (Vec.so (h.get hi)).sl.more fun b hb => (h.rng _ (List.mem_of_getElem? hi) b hb).2

theorem vec_shape {w : World} {base : Nat} {t : TypeId} {size : Nat} {v : Value} {n : Nat} {xs : List Value} (h : w.ownsRow base t size v n xs) : ∃ A c, v = .slice A n c := by
  rcases h.2 with ⟨rfl, rfl⟩ | ⟨g, cap, cur, rfl, _⟩
  · exact ⟨none, 0, rfl⟩
  · exact ⟨_, cap, rfl⟩

theorem grown_chg {w w' : World} {row : Option Nat} (h : w.grownBy w' row) : Chg (fun b => row = some b) w w' := ⟨h.os, h.tape, h.output, h.size, fun k hk hS => h.block k hk fun e => hS e.symm⟩

/-- Elements laid at ad, one after another, are appended; each with the blocks U that it owns. -/
theorem run_append_vec {P : Program} {M : Nat → Prop} {w0 : World} {rs : List Res} {w : World} {α : Type} {E : Enc α} {t e : TypeId} {bytes : Nat} {S U : Nat → Prop} {A : Option Addr} {c : Nat} {xs : List α} (he : TSl P t e E.size bytes) (ty : TypeId)
    (h : Held M w0 (rVec E e S A c xs :: rs) w) (ad : Addr) (ys : List α) (c2 : Nat) (dss : List (List Value)) (hl : dss.length = ys.length) (hcell : ∀ j u, dss.flatten[j]? = some u → w.cell? (ad.add j) = some u) (h1 : ∀ es ∈ dss, ∀ u ∈ es, u.oneCell' = true)
    (V : Nat → Nat → Prop) (hV : ∀ i b, V i b → U b) (hVd : ∀ i j b, V i b → V j b → i = j) (hO : ∀ (i : Nat) (y : α), ys[i]? = some y → ∃ es, dss[i]? = some es ∧ E.O w (V i) es y) (hU : ∀ b, U b → ¬ S b ∧ b < w.heap.size)
    (h63 : xs.length + ys.length ≤ maxLen) (hbytes : (xs.length + ys.length) * bytes ≤ 140737488355328) :
    ∃ A' c' S' w', (Builtin.append_ #[t, t] ty #[.slice A xs.length c, .slice (some ad) ys.length c2]).run P w = .ok (.slice A' (xs ++ ys).length c') w' ∧ Vec E e w' S' (.slice A' (xs ++ ys).length c') (xs ++ ys) ∧ Chg S w w' ∧ (∀ b, S' b → S b ∨ U b ∨ (w.heap.size ≤ b ∧ b < w'.heap.size)) := by
  obtain ⟨i, z, hi, hz0, hz1, hz2, hz3⟩ := he.info
  obtain ⟨css, T, k1, k2, k3, k4, k5, k6⟩ := h.ok _ (List.mem_cons_self)
  have hrng := h.rng _ (List.mem_cons_self)
  have hfl : dss.flatten.length = ys.length * E.size := by
    have key : ∀ (dss : List (List Value)) (ys : List α), dss.length = ys.length → (∀ (i : Nat) (y : α), ys[i]? = some y → ∃ es : List Value, dss[i]? = some es ∧ es.length = E.size) → dss.flatten.length = ys.length * E.size := by
      intro dss
      induction dss with
      | nil => intro ys hl _; simp at hl; simp [hl.symm]
      | cons e dss ih =>
        intro ys hl hO
        rcases ys with _ | ⟨y, ys⟩
        · simp at hl
        · obtain ⟨es, h1, h2⟩ := hO 0 y rfl
          simp at h1; subst h1
          rw [List.flatten_cons, List.length_append, ih ys (by simpa using hl) (fun i y hy => by simpa using hO (i + 1) y (by simpa using hy)), h2, List.length_cons, Nat.succ_mul]; omega
    exact key dss ys hl fun i y hy => by obtain ⟨es, h1, h2⟩ := hO i y hy; exact ⟨es, h1, E.len (E.read h2)⟩
  obtain ⟨v', w', e1, e2, e3, e4, e5⟩ := run_append_own_at (P := P) w 0 t ty e i z E.size bytes he.under hi hz0 hz1 hz2 hz3 E.pos _ xs.length css.flatten k2 ad ys.length c2 dss.flatten hfl hcell (fun u hu => by obtain ⟨es, h2, h3⟩ := List.mem_flatten.1 hu; exact h1 es h2 u h3) h63 hbytes (Nat.zero_le _)
  obtain ⟨A', c', rfl⟩ := vec_shape e2
  have hch := grown_chg e3
  refine ⟨A', c', fun b => S b ∨ U b ∨ (w.heap.size ≤ b ∧ b < w'.heap.size), w', by rw [List.length_append]; exact e1, ?_, hch.mono (fun b hb => k3 b hb), fun b hb => hb⟩
  have hnew : ∀ b, (Value.slice A' (xs.length + ys.length) c').ownBlock = some b → (Value.slice A xs.length c).ownBlock = some b ∨ (w.heap.size ≤ b ∧ b < w'.heap.size) := by
    intro b hb
    rcases e5 with e5 | e5
    · left; rw [← e5]; exact hb
    · right
      have hb2 : b = w.heap.size := by rw [e5] at hb; exact (Option.some.inj hb).symm
      rcases e2.2 with ⟨q, _⟩ | ⟨g, cap, cur, q, _, hh, _⟩
      · rw [q] at hb; cases hb
      · rw [q] at hb
        have : g = b := by simpa [Value.ownBlock] using hb
        subst this
        exact ⟨by omega, Blk.lt (t := e) (cur := cur) hh⟩
  rw [List.length_append]
  refine ⟨css ++ dss, fun i b => (i < xs.length ∧ T i b) ∨ (xs.length ≤ i ∧ V (i - xs.length) b), by simp [k1, hl], by rw [List.flatten_append, List.length_append]; exact e2, fun b hb => ?_, fun i b hb => ?_, fun i j b hi hj => ?_, fun m x hx => ?_⟩
  · rcases hnew b hb with hb | hb
    · exact .inl (k3 b hb)
    · exact .inr (.inr hb)
  · rcases hb with ⟨_, hb⟩ | ⟨_, hb⟩
    · refine ⟨.inl (k4 i b hb).1, fun hb' => ?_⟩
      rcases hnew b hb' with q | q
      · exact (k4 i b hb).2 q
      · have := (hrng b (k4 i b hb).1).2; omega
    · refine ⟨.inr (.inl (hV _ b hb)), fun hb' => ?_⟩
      rcases hnew b hb' with q | q
      · exact (hU b (hV _ b hb)).1 (k3 b q)
      · have := (hU b (hV _ b hb)).2; omega
  · rcases hi with ⟨hi1, hi⟩ | ⟨hi1, hi⟩ <;> rcases hj with ⟨hj1, hj⟩ | ⟨hj1, hj⟩
    · exact k5 i j b hi hj
    · exact absurd (k4 i b hi).1 (hU b (hV _ b hj)).1
    · exact absurd (k4 j b hj).1 (hU b (hV _ b hi)).1
    · have := hVd _ _ b hi hj; omega
  · by_cases hm : m < xs.length
    · rw [List.getElem?_append_left hm] at hx
      obtain ⟨es, h2, h3⟩ := k6 m x hx
      refine ⟨es, by rw [List.getElem?_append_left (by omega)]; exact h2, E.omore (E.okeep h3 fun b hb => ?_) fun b hb => .inl ⟨hm, hb⟩⟩
      exact hch.block b (hrng b (k4 m b hb).1).2 fun q => (k4 m b hb).2 q
    · rw [List.getElem?_append_right (by omega)] at hx
      obtain ⟨es, h2, h3⟩ := hO _ x hx
      refine ⟨es, by rw [List.getElem?_append_right (by omega), k1]; exact h2, E.omore (E.okeep h3 fun b hb => ?_) fun b hb => .inr ⟨by omega, hb⟩⟩
      exact hch.block b (hU b (hV _ b hb)).2 fun q => (hU b (hV _ b hb)).1 (k3 b q)

theorem Held.mut2 {M : Nat → Prop} {w0 : World} {r s : Res} {rs : List Res} {w w' : World} (h : Held M w0 (r :: s :: rs) w) (hc : Chg r.S w w') (r' : Res) (hr : r'.φ w') (hS : ∀ b, r'.S b → r.S b ∨ s.S b ∨ (w.heap.size ≤ b ∧ b < w'.heap.size)) : Held M w0 (r' :: rs) w' := by
  have h1 : Held M w0 (⟨fun b => r.S b ∨ s.S b, fun _ => True, fun _ _ _ _ => trivial⟩ :: rs) w := h.join ⟨fun b => r.S b ∨ s.S b, fun _ => True, fun _ _ _ _ => trivial⟩ (fun _ _ _ => trivial) fun _ hb => hb
  have h2 := h1.mut (i := 0) rfl (hc.mono fun b hb => .inl hb) r' hr fun b hb => by
    rcases hS b hb with q | q | q
    · exact .inl (.inl q)
    · exact .inl (.inr q)
    · exact .inr q
  exact h2

/-- One flat element is appended. -/
theorem st_app1F {P : Program} {ops : Array Oper} {Q : Exit → Act → World → Prop} {a : Act} {w : World} {K : Act → World → Prop} {n d : Nat} {L : List (Nat × Value)} {M : Nat → Prop} {w0 : World} {rs rs' : List Res} {α : Type} {E : Enc α} {t e : TypeId} {bytes : Nat} {S : Nat → Prop} {A : Option Addr} {c g : Nat} {xs : List α} {es : List Value} {x1 x2 : Operand} {ty : TypeId} {pos : String} {af : Array Edge} {gd : Option (Nat × Bool)} (y : α) (hE : Env n L a) (hH : Held M w0 rs w) (he : TSl P t e E.size bytes) (is : List Nat) (hn1 : is.Nodup) (his : pick rs is = some (rVec E e S A c xs :: rBlk g e es :: rs')) (hO : ∀ W, E.O W Nob es y)
    (hx1 : ev L x1 = some (.slice A xs.length c)) (hx2 : ev L x2 = some (.slice (some ⟨g, 0, none⟩) 1 1)) (h1 : ∀ u ∈ es, u.oneCell' = true) (h63 : xs.length + 1 ≤ maxLen) (hbytes : (xs.length + 1) * bytes ≤ 140737488355328) (hw : Region.wanted ⟨some d, .call { callee := .builtin .append, args := #[x1, x2], argTypes := #[t, t] }, ty, pos, af, gd⟩ (yielded ops a.tmps) = true) (hn : Nat.blt d n = true)
    (k : ∀ A' c' S' a' w', Env n ((d, .slice A' (xs ++ [y]).length c') :: L) a' → Held M w0 (rVec E e S' A' c' (xs ++ [y]) :: rs') w' → K a' w') : Stp P ops Q ⟨some d, .call { callee := .builtin .append, args := #[x1, x2], argTypes := #[t, t] }, ty, pos, af, gd⟩ a w K := by
  have h := hH.sel is hn1 his
  have hB : Blk w g e es.toArray := h.ok (rBlk g e es) (by simp)
  obtain ⟨A', c', S', w', e1, e2, e3, e4⟩ := run_append_vec (U := Nob) he ty h ⟨g, 0, none⟩ [y] 1 [es] rfl (fun j u hu => by rw [add_none, Nat.zero_add, hB.cell]; simpa using hu) (by simpa using h1)
    (fun _ _ => False) (fun i b hb => hb.elim) (fun i j b hi hj => hi.elim) (fun i z hz => by
      rcases i with _ | i
      · simp at hz; subst hz; exact ⟨es, rfl, hO w⟩
      · simp at hz) (fun b hb => hb.elim) h63 hbytes
  have h2 : Held M w0 (rVec E e S' A' c' (xs ++ [y]) :: rs') w' := h.mut2 e3 (rVec E e S' A' c' (xs ++ [y])) e2 (fun b hb => by
    rcases e4 b hb with q | q | q
    · exact .inl q
    · exact q.elim
    · exact .inr (.inr q))
  refine st_val hE hw ?_ rfl hn fun a' hE' => k A' c' S' a' w' hE' h2
  simp only [List.length_singleton] at e1
  simp only [execOp, resolve, invoke, builtin, Sem.run_bind, Sem.run_pure, Result.andThen_ok, List.map_toArray, List.map_cons, List.map_nil, hE.ev hx1, hE.ev hx2, e1]

theorem any_hit {α : Type} {p : α → Bool} {xs : List α} {k : Nat} (hk : k < xs.length) (h : p xs[k] = true) : xs.any p = true :=
  List.any_eq_true.2 ⟨_, List.getElem_mem hk, h⟩

theorem any_step {α : Type} {p : α → Bool} {xs : List α} {k : Nat} (hk : k < xs.length) (h0 : (xs.take k).any p = false) (h : p xs[k] = false) : (xs.take (k + 1)).any p = false := by
  rw [List.take_succ_eq_append_getElem hk, List.any_append, h0]; simp [h]

/-- Equality of two lists, element by element. -/
def eqL {α : Type} (p : α → α → Bool) : List α → List α → Bool
  | [], [] => true
  | x :: xs, y :: ys => p x y && eqL p xs ys
  | _, _ => false

theorem eqL_refl {α : Type} {p : α → α → Bool} (hp : ∀ x, p x x = true) : ∀ xs : List α, eqL p xs xs = true
  | [] => rfl
  | x :: xs => by rw [eqL, hp, eqL_refl hp xs]; rfl

theorem eqL_len {α : Type} {p : α → α → Bool} : ∀ (xs ys : List α), xs.length ≠ ys.length → eqL p xs ys = false
  | [], [], h => absurd rfl h
  | [], _ :: _, _ => rfl
  | _ :: _, [], _ => rfl
  | x :: xs, y :: ys, h => by rw [eqL, eqL_len xs ys (by simpa using h)]; simp

theorem eqL_get {α : Type} {p : α → α → Bool} : ∀ (xs ys : List α) (k : Nat) (h1 : k < xs.length) (h2 : k < ys.length), p xs[k] ys[k] = false → eqL p xs ys = false
  | x :: xs, y :: ys, 0, _, _, h => by rw [eqL]; simp at h; rw [h]; rfl
  | x :: xs, y :: ys, k + 1, h1, h2, h => by rw [eqL, eqL_get xs ys k (by simpa using h1) (by simpa using h2) (by simpa using h)]; simp

theorem eqL_all {α : Type} {p : α → α → Bool} : ∀ (xs ys : List α), xs.length = ys.length → (∀ k (h1 : k < xs.length) (h2 : k < ys.length), p xs[k] ys[k] = true) → eqL p xs ys = true
  | [], [], _, _ => rfl
  | x :: xs, y :: ys, hl, h => by
    have e : p x y = true := h 0 (Nat.zero_lt_succ _) (Nat.zero_lt_succ _)
    have e' : eqL p xs ys = true := eqL_all xs ys (by simpa using hl) fun k h1 h2 => h (k + 1) (Nat.succ_lt_succ h1) (Nat.succ_lt_succ h2)
    rw [eqL, e, e']; rfl
  | [], _ :: _, hl, _ => by simp at hl
  | _ :: _, [], hl, _ => by simp at hl

theorem ret_bool {a b : Bool} (h : a = b) : Ending.returned (.bool a) = .returned (.bool b) := by rw [h]

theorem ret_int {k : IntKind} {a b : Int} (h : a = b) : Ending.returned (.int k a) = .returned (.int k b) := by rw [h]

def withinB (n lo hi : Int) : Bool := decide (lo ≤ n) && decide (n ≤ hi)

theorem withinB_true {n lo hi : Int} : withinB n lo hi = true ↔ lo ≤ n ∧ n ≤ hi := by
  unfold withinB; simp

theorem impl_within (n lo hi : Int) (w : World) :
    Calls Try.prog 69 #[.int .i64 n, .int .i64 lo, .int .i64 hi] w fun e w' => e = .returned (.bool (withinB n lo hi)) ∧ w = w' := by
  unfold withinB
  by_cases h1 : lo ≤ n
  · go_enter Try.func69, Try.ntmps69
    go_wp2
    go_ret
    exact ⟨by first | (simp; done) | simp [h1], rfl⟩
  · have h2 : decide (lo ≤ n) = false := by simpa using h1
    go_enter Try.func69, Try.ntmps69
    go_wp2
    go_ret
    exact ⟨by first | (simp; done) | simp [h2], rfl⟩

theorem spec_l00In (n lo hi : Int) (w : World) :
    Calls Try.prog 67 #[.int .i64 n, .int .i64 lo, .int .i64 hi] w fun e w' => e = .returned (.bool (withinB n lo hi)) ∧ w = w' := by
  unfold withinB
  by_cases h1 : lo ≤ n
  · go_enter Try.func67, Try.ntmps67
    go_wp2
    go_ret
    exact ⟨by first | (simp; done) | simp [h1], rfl⟩
  · have h2 : decide (lo ≤ n) = false := by simpa using h1
    go_enter Try.func67, Try.ntmps67
    go_wp2
    go_ret
    exact ⟨by first | (simp; done) | simp [h2], rfl⟩

set_option maxHeartbeats 400000 in
theorem IndexFunc_Int64 (p : Int → Bool) (g : Nat) (lb : Array Value) (A : Option Addr) (c : Nat) (xs : List Int) (w : World) (h : Sl eInt w (Old w) A c xs)
    (eg : ∀ args w, (callFunc g args).run Try.prog w = .ok (.enter g args) w) (hp : ∀ W x es, x ∈ xs → Below w.heap.size w W → eInt.R W (Old W) es x → Calls Try.prog g (#[es[0]!] ++ lb) W fun e w' => e = .returned (.bool (p x)) ∧ Below W.heap.size W w') :
    Calls Try.prog 160 #[.slice A xs.length c, .func (.func g) #[] lb] w fun e w' => (∃ r : Int, e = .returned (.int .i64 r) ∧ decide (0 ≤ r) = xs.any p) ∧ Below w.heap.size w w' := by
  have hlen := h.len
  have H := Lib.hid h; clear h
  have HP := Lib.hid hp; clear hp
  go_enter Try.func160, Try.ntmps160
  go_wp2
  go_loopg [5, 8] xs.length (fun gg _ s8 wr => ∃ k : Nat, k ≤ xs.length ∧ xs.length - k ≤ gg ∧ s8 = .int .i64 k ∧ Hid (Below w.heap.size w wr) ∧ Hid ((xs.take k).any p = false))
  case atStart => exact ⟨0, Nat.zero_le _, by omega, rfl, Below.refl _ w, rfl⟩
  case round =>
    obtain ⟨k, hk, hg, rfl, BW, HN⟩ := hrel
    by_cases hlt : k < xs.length
    · have hltz : (k : Int) < (xs.length : Int) := by omega
      obtain ⟨b, off, es, rfl, hb, hR, hc⟩ := H.out.at1 rfl hlt
      have hcall := HP.out wr xs[k] _ (List.getElem_mem hlt) BW.out (eInt.on hR BW.out)
      obtain ⟨rfl, gq⟩ := hR
      have d0 : wr.cell? ⟨b, off + k, none⟩ = some (.int .i64 xs[k]) := (below_olds BW.out _ hb).trans (hc _ rfl)
      clear hc gq
      try clear hR
      have HQ1 : Hid (p xs[k] = true → xs.any p = true) := any_hit hlt
      have HQ0 : Hid (p xs[k] = false → (xs.take (k + 1)).any p = false) := any_step hlt HN.out
      generalize xs[k] = y at d0 hcall HQ1 HQ0
      cases hq : p y with
      | true =>
        rw [hq] at hcall
        have HQ := Lib.hid (HQ1.out hq); clear hq HQ1 HQ0
        go_wp2_with (go_at_fn g; refine hcall.mono ?_; rintro e w' ⟨rfl, hb'⟩)
        go_ret
        exact ⟨⟨k, rfl, by rw [HQ.out]; simp⟩, below_trans BW.out hb'⟩
      | false =>
        rw [hq] at hcall
        have HQ := Lib.hid (HQ0.out hq); clear hq HQ1 HQ0
        go_wp2_with (go_at_fn g; refine hcall.mono ?_; rintro e w' ⟨rfl, hb'⟩)
        go_roundg (xs.length - (k + 1))
        case measure => omega
        case rel => exact ⟨k + 1, by omega, by omega, by go_num, below_trans BW.out hb', HQ.out⟩
    · have hltz : ¬ (k : Int) < (xs.length : Int) := by omega
      obtain rfl : k = xs.length := by omega
      go_wp2
      go_ret
      refine ⟨⟨-1, rfl, ?_⟩, BW.out⟩
      have := HN.out
      rw [List.take_length] at this
      rw [this]; rfl

theorem ContainsFunc_Int64 (p : Int → Bool) (g : Nat) (lb : Array Value) (A : Option Addr) (c : Nat) (xs : List Int) (w : World) (h : Sl eInt w (Old w) A c xs)
    (eg : ∀ args w, (callFunc g args).run Try.prog w = .ok (.enter g args) w) (hp : ∀ W x es, x ∈ xs → Below w.heap.size w W → eInt.R W (Old W) es x → Calls Try.prog g (#[es[0]!] ++ lb) W fun e w' => e = .returned (.bool (p x)) ∧ Below W.heap.size W w') :
    Calls Try.prog 103 #[.slice A xs.length c, .func (.func g) #[] lb] w fun e w' => e = .returned (.bool (xs.any p)) ∧ Below w.heap.size w w' := by
  have hI := Lib.hid (IndexFunc_Int64 p g lb A c xs w h eg hp); clear h hp eg
  go_enter Try.func103, Try.ntmps103
  go_wp2_with (go_at_call 160; refine hI.out.mono ?_; rintro e w' ⟨⟨r, rfl, hr⟩, hb⟩; have HR := Lib.hid hr; clear hr)
  go_ret
  exact ⟨by rw [← HR.out]; rfl, hb⟩

theorem costL_take {α : Type} (f : α → Nat) (xs : List α) (k : Nat) (h : k < xs.length) : ((xs.take (k + 1)).map f).sum = ((xs.take k).map f).sum + f xs[k] := by
  rw [List.take_succ_eq_append_getElem h, List.map_append, List.sum_append]; simp only [List.map_cons, List.map_nil, List.sum_cons, List.sum_nil, Nat.add_zero]

theorem cost_le {α : Type} (f : α → Nat) (xs : List α) (k : Nat) : ((xs.take k).map f).sum ≤ (xs.map f).sum := by
  have h : (xs.map f).sum = ((xs.take k).map f).sum + ((xs.drop k).map f).sum := by
    rw [← List.sum_append, ← List.map_append, List.take_append_drop]
  omega

/-- What the size functions of the laws answer. -/
def left (l : Int) (n : Nat) : Int := if l - n < 0 then -1 else l - n

def cost_L (xs : List Int) : Nat := xs.length

def eq_i (x y : Int) : Bool := x == y

def eq_L (x y : List Int) : Bool := eqL eq_i x y

theorem eq_i_refl (x : Int) : eq_i x x = true := by simp [eq_i]

theorem eq_L_refl (x : List Int) : eq_L x x = true := eqL_refl eq_i_refl x

set_option maxRecDepth 100000 in
set_option maxHeartbeats 1000000 in
theorem eq_L_c (A A' : Option Addr) (c c' : Nat) (xs ys : List Int) (w : World) (h : Sl eInt w (Old w) A c xs) (h' : Sl eInt w (Old w) A' c' ys) :
    Calls Try.prog 26 #[.slice A xs.length c, .slice A' ys.length c'] w fun e w' => e = .returned (.bool (eq_L xs ys)) ∧ Below w.heap.size w w' := by
  have hlen := h.len
  have hlen' := h'.len
  unfold eq_L
  by_cases hne : xs.length = ys.length
  · have hne' : ((xs.length : Int) != (ys.length : Int)) = false := by simp [hne]
    have HE := Lib.hid hne; clear hne
    have H := Lib.hid h; clear h
    have H' := Lib.hid h'; clear h'
    go_enter Try.func26, Try.ntmps26
    go_wp2
    clear hne'
    go_loopw [5] (fun s5 wr => ∃ k : Nat, k ≤ xs.length ∧ s5 = .int .i64 k ∧ Hid (Below w.heap.size w wr) ∧ Hid (∀ j (h1 : j < xs.length) (h2 : j < ys.length), j < k → eq_i xs[j] ys[j] = true)) (fun s5 _ => xs.length - (intOf s5).toNat)
    case atStart => exact ⟨0, Nat.zero_le _, rfl, Below.refl _ _, fun j _ _ h => absurd h (Nat.not_lt_zero _)⟩
    case round =>
      obtain ⟨k, hk, rfl, HL, HN⟩ := hrel
      by_cases hlt : k < xs.length
      · have hltz : (k : Int) < (xs.length : Int) := by omega
        have hlt' : k < ys.length := by have := HE.out; omega
        have hltz' : (k : Int) < (ys.length : Int) := by omega
        obtain ⟨bp, offp, esp, rfl, hbp, hR, hc⟩ := H.out.at1 rfl hlt
        obtain ⟨rfl, gp⟩ := hR
        have dp0 : wr.cell? ⟨bp, offp + k, none⟩ = some (.int .i64 xs[k]) := (below_olds HL.out _ hbp).trans (hc _ rfl)
        clear hc gp
        try clear hR
        obtain ⟨bq, offq, esq, rfl, hbq, hR, hc⟩ := H'.out.at1 rfl hlt'
        obtain ⟨rfl, gq⟩ := hR
        have dq0 : wr.cell? ⟨bq, offq + k, none⟩ = some (.int .i64 ys[k]) := (below_olds HL.out _ hbq).trans (hc _ rfl)
        clear hc gq
        try clear hR
        have HQ0 : Hid (eq_i xs[k] ys[k] = false → eqL eq_i xs ys = false) := eqL_get xs ys k hlt hlt'
        have HQ1 : Hid (eq_i xs[k] ys[k] = true → ∀ j (h1 : j < xs.length) (h2 : j < ys.length), j < k + 1 → eq_i xs[j] ys[j] = true) := fun e j h1 h2 hj => by
          by_cases ej : j = k
          · subst ej; exact e
          · exact HN.out j h1 h2 (by omega)
        generalize xs[k] = x at dp0 HQ0 HQ1
        generalize ys[k] = y at dq0 HQ0 HQ1
        cases hq : eq_i x y
        · have hq' : (x != y) = true := by simp [eq_i] at hq; simp [hq]
          go_wp2_with fail
          go_quiet (fail)
          go_wp2
          go_ret
          exact ⟨by rw [HQ0.out hq]; rfl, below_drewN HL.out _⟩
        · have hq' : (x != y) = false := by simp [eq_i] at hq; simp [hq]
          go_wp2_with fail
          go_quiet (fail)
          go_wp2
          go_roundw
          case rel => exact ⟨k + 1, by omega, by go_num, below_drewN HL.out _, HQ1.out hq⟩
          case measure => simp [intOf]; omega
      · have hltz : ¬ (k : Int) < (xs.length : Int) := by omega
        obtain rfl : k = xs.length := by omega
        go_wp2
        go_ret
        exact ⟨by rw [eqL_all xs ys HE.out fun j h1 h2 => HN.out j h1 h2 h1]; rfl, HL.out⟩
  · have hne' : ((xs.length : Int) != (ys.length : Int)) = true := by simp; omega
    rw [eqL_len xs ys hne]
    clear h h' hne
    go_enter Try.func26, Try.ntmps26
    go_wp2
    go_ret
    exact ⟨rfl, Below.refl _ _⟩

theorem info_impl_Int64 : (Try.prog.info? 2).map (fun i => (i.zero, i.size, i.bytes)) = some (some (.int .i64 0), 1, 8) := by kernel_rfl

set_option maxHeartbeats 1000000 in
theorem to_Int64S (A : Option Addr) (c : Nat) (xs : List Int) (w : World) (h : Sl eInt w (Old w) A c xs) (hsm : cost_L xs ≤ 1048576) :
    Calls Try.prog 23 #[.slice A xs.length c] w fun e w' => ∃ A' c', e = .returned (.slice A' xs.length c') ∧ So eInt w' (Fr w w') A' c' xs ∧ Below w.heap.size w w' := by
  obtain ⟨i0, hi0, hz0, hz1, hz2⟩ := info_parts info_impl_Int64
  have hlen := h.len
  have hsl : xs.length ≤ 1048576 := by exact hsm
  have HCO := Lib.hid hsm; clear hsm
  have H := Lib.hid h; clear h
  go_enter Try.func23, Try.ntmps23
  go_wp2_with (at_make; refine wpList_make_full _ rfl _ _ 31 rfl w.heap.size 2 i0 _ 1 Try.underlying31 hi0 hz0 hz1 _ _ _ _ xs.length rfl rfl rfl rfl (by rw [hz2]; omega) (by unfold maxLen; omega) (Nat.le_refl _) ?_)
  intro w1 hown hgrow
  obtain ⟨cur, hB, hs, ht, hn1, hn2⟩ := Blk.of_own hown
  have HB := Lib.hid hB; clear hB
  have HS : Hid (cur.size = xs.length) := by show _ = _; omega
  have hbel : Below w.heap.size w w1 := (Below.refl _ _).grown hgrow (Nat.le_refl _) (by simp)
  have HL := Lib.hid hbel; clear hbel
  clear hs ht hn1 hn2 hgrow hown hi0 hz0 hz1 hz2
  go_wp2_with fail
  go_loopw [4] (fun s4 wr => ∃ (k : Nat) (cur : Array Value), k ≤ xs.length ∧ s4 = .int .i64 k ∧ Hid (Below w.heap.size w wr) ∧ Hid (Blk wr w.heap.size 2 cur) ∧ Hid (cur.size = xs.length) ∧ Hid (Filled eInt wr w.heap.size (fun b => w.heap.size ≤ b) cur k xs)) (fun s4 _ => xs.length - (intOf s4).toNat)
  case atStart => exact ⟨0, cur, Nat.zero_le _, rfl, HL, HB, HS, Filled.zero⟩
  case round =>
    clear HB HS HL
    obtain ⟨k, cur, hk, rfl, HL, HB, HS, HF⟩ := hrel
    by_cases hlt : k < xs.length
    · have hltz : (k : Int) < (xs.length : Int) := by omega
      obtain ⟨b, off, es, rfl, hb, hR, hc⟩ := H.out.at1 rfl hlt
      have HX : Hid (xs[k]? = some xs[k]) := List.getElem?_eq_getElem hlt
      obtain ⟨rfl, gq⟩ := hR
      have d0 : wr.cell? ⟨b, off + k, none⟩ = some (.int .i64 xs[k]) := (below_olds HL.out _ hb).trans (hc _ rfl)
      have HR := Lib.hid gq
      clear hc gq
      try clear hR
      obtain ⟨v0, hv0⟩ : ∃ v, cur[k]? = some v := get_some (by have := HS.out; omega)
      have HV0 := Lib.hid hv0; clear hv0
      generalize xs[k] = y at d0 HX HR
      have e0 : wr.cell? ⟨w.heap.size, k, none⟩ = some v0 := (HB.out.cell _).trans HV0.out
      have f0 := HB.out.frozen (k)
      go_wp2
      go_roundw
      case rel =>
        exact ⟨k + 1, setAll cur k [_], by omega, by go_num, HL.out.setCell (Nat.le_refl _) _, HB.out.set _ _, (size_setAll _ _ _).trans HS.out, by
          have := (HF.out.set k (.int .i64 y)).step (w' := wr.setCell ⟨w.heap.size, k, none⟩ (.int .i64 y)) (T0 := fun _ => False) (es := [.int .i64 y]) (fun _ _ _ => rfl) (Nat.le_refl _) HX.out ⟨rfl, HR.out⟩ (fun _ h => h.elim) (by have := HS.out; show (k + 1) * 1 ≤ _; omega)
          rw [show k * eInt.size = k from Nat.mul_one k] at this
          exact this⟩
      case measure => simp [intOf]; omega
    · have hltz : ¬ (k : Int) < (xs.length : Int) := by omega
      obtain rfl : k = xs.length := by omega
      go_wp2
      go_ret
      exact ⟨_, _, rfl, HF.out.soFr HB.out (Nat.le_refl _) (by unfold maxLen; omega), HL.out⟩

theorem i64_small {x : Int} (h0 : 0 ≤ x) (h1 : x ≤ 1000000000000) : I64 x := ⟨by omega, by omega⟩

/-- How many numbers a list of elements takes. -/
def cntL {α : Type} (c : α → Nat) (xs : List α) : Nat := (xs.map c).sum

/-- The elements marked one after another from k on. -/
def mkL {α : Type} (f : α → Int → α) (c : α → Nat) : List α → Int → List α
  | [], _ => []
  | x :: xs, k => f x k :: mkL f c xs (k + c x)

theorem mkL_len {α : Type} (f : α → Int → α) (c : α → Nat) : ∀ (xs : List α) (k : Int), (mkL f c xs k).length = xs.length
  | [], _ => rfl
  | x :: xs, k => by rw [mkL, List.length_cons, mkL_len f c xs, List.length_cons]

theorem mkL_append {α : Type} (f : α → Int → α) (c : α → Nat) : ∀ (xs ys : List α) (k : Int), mkL f c (xs ++ ys) k = mkL f c xs k ++ mkL f c ys (k + cntL c xs)
  | [], ys, k => by simp [mkL, cntL]
  | x :: xs, ys, k => by
    rw [List.cons_append, mkL, mkL, mkL_append f c xs ys, List.cons_append]
    have : k + (c x : Int) + (cntL c xs : Int) = k + (cntL c (x :: xs) : Int) := by unfold cntL; simp only [List.map_cons, List.sum_cons]; omega
    rw [this]

theorem cntL_take {α : Type} (c : α → Nat) (xs : List α) (i : Nat) (h : i < xs.length) : cntL c (xs.take (i + 1)) = cntL c (xs.take i) + c xs[i] := costL_take c xs i h

theorem cntL_le {α : Type} (c : α → Nat) (xs : List α) (i : Nat) : cntL c (xs.take i) ≤ cntL c xs := cost_le c xs i

/-- What a marking loop has made after i rounds. -/
def mkTo {α : Type} (f : α → Int → α) (c : α → Nat) (xs : List α) (k : Int) (i : Nat) : List α := mkL f c (xs.take i) k ++ xs.drop i

theorem mkTo_zero {α : Type} (f : α → Int → α) (c : α → Nat) (xs : List α) (k : Int) : mkTo f c xs k 0 = xs := by simp [mkTo, mkL]

theorem mkTo_len {α : Type} (f : α → Int → α) (c : α → Nat) (xs : List α) (k : Int) (i : Nat) : (mkTo f c xs k i).length = xs.length := by
  unfold mkTo; rw [List.length_append, mkL_len, List.length_take, List.length_drop]; omega

theorem mkTo_end {α : Type} (f : α → Int → α) (c : α → Nat) (xs : List α) (k : Int) : mkTo f c xs k xs.length = mkL f c xs k := by simp [mkTo]

theorem mkTo_step {α : Type} (f : α → Int → α) (c : α → Nat) (xs : List α) (k : Int) (i : Nat) (h : i < xs.length) : (mkTo f c xs k i).set i (f xs[i] (k + cntL c (xs.take i))) = mkTo f c xs k (i + 1) := by
  have hl : (mkL f c (xs.take i) k).length = i := by rw [mkL_len, List.length_take]; omega
  unfold mkTo
  rw [List.take_succ_eq_append_getElem h, mkL_append, List.drop_eq_getElem_cons h, List.set_append_right _ _ (by omega), hl, Nat.sub_self, List.set_cons_zero]
  simp [mkL]

theorem mkL_get {α : Type} (f : α → Int → α) (c : α → Nat) (xs : List α) (k : Int) (i : Nat) (h : i < xs.length) : (mkL f c xs k)[i]? = some (f xs[i] (k + cntL c (xs.take i))) := by
  have h1 : mkL f c xs k = mkL f c (xs.take i) k ++ mkL f c (xs.drop i) (k + cntL c (xs.take i)) := by rw [← mkL_append, List.take_append_drop]
  have hl : (mkL f c (xs.take i) k).length = i := by rw [mkL_len, List.length_take]; omega
  rw [h1, List.getElem?_append_right (by omega), hl, Nat.sub_self, List.drop_eq_getElem_cons h]
  rfl

def mk_i (_ : Int) (k : Int) : Int := k

def ct_i (_ : Int) : Nat := 1

def mk_L (xs : List Int) (k : Int) : List Int := mkL mk_i ct_i xs k

def ct_L (xs : List Int) : Nat := cntL ct_i xs

set_option maxHeartbeats 1000000 in
theorem mark_L_c (A : Option Addr) (c : Nat) (xs : List Int) (k : Int) (w : World) (S : Nat → Prop) (h : So eInt w S A c xs) (_hS : ∀ b, S b → b < w.heap.size) (hk : 0 ≤ k) (hk' : k + (ct_L xs : Int) ≤ 1000000000000) :
    Calls Try.prog 34 #[.slice A xs.length c, .int .i64 k] w fun e w' => e = .returned (.int .i64 (k + (ct_L xs : Int))) ∧ So eInt w' S A c (mk_L xs k) ∧ Chg S w w' := by
  have hlen := h.sl.len
  clear _hS
  have H := Lib.hid h; clear h
  have HC : Hid (ct_L xs = cntL ct_i xs) := rfl
  go_enter Try.func34, Try.ntmps34
  go_wp2
  go_loopw [1, 5] (fun s1 s5 wr => ∃ (i : Nat) (q : Int), i ≤ xs.length ∧ s5 = .int .i64 i ∧ s1 = .int .i64 q ∧ 0 ≤ q ∧ q ≤ 1000000000000 ∧ Hid (q = k + (cntL ct_i (xs.take i) : Int)) ∧ Hid (So eInt wr S A c (mkTo mk_i ct_i xs k i)) ∧ Hid (Chg S w wr)) (fun _ s5 _ => xs.length - (intOf s5).toNat)
  case atStart => exact ⟨0, k, Nat.zero_le _, rfl, rfl, hk, by omega, by show _ = _; simp [cntL], by show So _ _ _ _ _ _; rw [mkTo_zero]; exact H.out, Chg.refl _ _⟩
  case round =>
    obtain ⟨i, q, hi, rfl, rfl, hq0, hq1, HQ, HS, HG⟩ := hrel
    by_cases hlt : i < xs.length
    · have hltz : (i : Int) < (xs.length : Int) := by omega
      have HQ2 : Hid (q + 1 ≤ 1000000000000 ∧ q + 1 = k + (cntL ct_i (xs.take (i + 1)) : Int)) := by
        have h1 := cntL_take ct_i xs i hlt
        have h2 := cntL_le ct_i xs (i + 1)
        have h3 : ct_i xs[i] = 1 := rfl
        have h4 := HQ.out
        have h5 := HC.out
        refine ⟨?_, ?_⟩ <;> omega
      have hq2 := HQ2.out.1
      obtain ⟨b, off, t, cur, T, es, rfl, hSb, hB, hT, hO, hcells, hre⟩ := HS.out.at (k := i) (by rw [mkTo_len]; exact hlt)
      have hel := eInt.len (eInt.read hO)
      obtain ⟨v0, hv0⟩ : ∃ v, cur[off + i]? = some v := ⟨_, by have h := hcells 0 _ (List.getElem?_eq_getElem (by rw [hel]; decide)); rw [show off + i * eInt.size + 0 = off + i from by show off + i * 1 + 0 = _; omega] at h; exact h⟩
      have e0 : wr.cell? ⟨b, off + i, none⟩ = some v0 := (hB.cell _).trans hv0
      have f0 := hB.frozen (off + i)
      clear hv0
      have HB := Lib.hid hB; clear hB hcells hel
      have HRE : Hid (So eInt (wr.setCell ⟨b, off + i, none⟩ (.int .i64 (q))) S (some ⟨b, off, none⟩) c (mkTo mk_i ct_i xs k (i + 1))) := by
        show So _ _ _ _ _ _
        rw [← mkTo_step mk_i ct_i xs k i hlt, ← HQ.out]
        refine hre _ [.int .i64 (q)] _ (oI (i64_small (by omega) (by omega))) ?_ (fun m hm hne _ => ?_)
        · rw [show off + i * eInt.size = off + i from by show off + i * 1 = _; omega]; exact HB.out.set _ _
        · rw [Below.heap_setCell _ _ _ _ (by exact hne)]
      clear hre hO hT
      have HG2 : Hid (Chg S w (wr.setCell ⟨b, off + i, none⟩ (.int .i64 (q)))) := (HG.out.set (by exact hSb) _)
      have HSB := Lib.hid hSb; clear hSb
      go_wp2
      go_roundw
      case rel => exact ⟨i + 1, q + 1, by omega, by go_num, rfl, by omega, by omega, by show _ = _; have := HQ2.out.2; omega, HRE.out, HG2.out⟩
      case measure => simp [intOf]; omega
    · have hltz : ¬ (i : Int) < (xs.length : Int) := by omega
      obtain rfl : i = xs.length := by omega
      have h2 := HQ.out
      rw [List.take_length] at h2
      have h3 := HS.out
      rw [mkTo_end] at h3
      have H2 := Lib.hid h2; have H3 := Lib.hid h3; clear h2 h3
      go_wp2
      go_ret
      exact ⟨ret_int (by rw [H2.out, HC.out]), H3.out, HG.out⟩

set_option maxHeartbeats 1000000 in
theorem held_L_c (A : Option Addr) (c : Nat) (xs : List Int) (k : Int) (w : World) (h : Sl eInt w (Old w) A c (mk_L xs k)) (hk : 0 ≤ k) (hk' : k + (ct_L xs : Int) ≤ 1000000000000) :
    Calls Try.prog 46 #[.slice A xs.length c, .int .i64 k] w fun e w' => e = .returned (.int .i64 (k + (ct_L xs : Int))) ∧ Below w.heap.size w w' := by
  have hlen := h.len
  have hL : (mk_L xs k).length = xs.length := mkL_len _ _ _ _
  rw [hL] at hlen
  have HLen := Lib.hid hL; clear hL
  have H := Lib.hid h; clear h
  have HC : Hid (ct_L xs = cntL ct_i xs) := rfl
  go_enter Try.func46, Try.ntmps46
  go_wp2
  go_loop [1, 5] (fun s1 s5 => ∃ (i : Nat) (q : Int), i ≤ xs.length ∧ s5 = .int .i64 i ∧ s1 = .int .i64 q ∧ 0 ≤ q ∧ q ≤ 1000000000000 ∧ Hid (q = k + (cntL ct_i (xs.take i) : Int))) (fun _ s5 => xs.length - (intOf s5).toNat)
  case atStart => exact ⟨0, k, Nat.zero_le _, rfl, rfl, hk, by omega, by show _ = _; simp [cntL]⟩
  case round =>
    obtain ⟨i, q, hi, rfl, rfl, hq0, hq1, HQ⟩ := hrel
    by_cases hlt : i < xs.length
    · have hltz : (i : Int) < (xs.length : Int) := by omega
      have HQ2 : Hid (q + 1 ≤ 1000000000000 ∧ q + 1 = k + (cntL ct_i (xs.take (i + 1)) : Int)) := by
        have h1 := cntL_take ct_i xs i hlt
        have h2 := cntL_le ct_i xs (i + 1)
        have h3 : ct_i xs[i] = 1 := rfl
        have h4 := HQ.out
        have h5 := HC.out
        refine ⟨?_, ?_⟩ <;> omega
      have hq2 := HQ2.out.1
      have hlt2 : i < (mk_L xs k).length := by rw [HLen.out]; exact hlt
      have HE : Hid ((mk_L xs k)[i] = mk_i xs[i] q) := by
        have h1 := mkL_get mk_i ct_i xs k i hlt
        rw [← HQ.out] at h1
        exact Option.some.inj ((List.getElem?_eq_getElem hlt2).symm.trans h1)
      obtain ⟨b, off, es, rfl, hb, hR, hc⟩ := H.out.at1 rfl hlt2
      rw [HE.out] at hR
      obtain ⟨rfl, gq⟩ := hR
      have d0 : w.cell? ⟨b, off + i, none⟩ = some (.int .i64 q) := hc _ rfl
      have t0 : (q != q) = false := by simp
      clear hc gq
      try clear hR
      go_wp2
      go_round
      case rel => exact ⟨i + 1, q + 1, by omega, by go_num, rfl, by omega, by omega, by show _ = _; have := HQ2.out.2; omega⟩
      case measure => simp [intOf]; omega
    · have hltz : ¬ (i : Int) < (xs.length : Int) := by omega
      obtain rfl : i = xs.length := by omega
      have h2 := HQ.out
      rw [List.take_length] at h2
      have H2 := Lib.hid h2; clear h2
      go_wp2
      go_ret
      exact ⟨ret_int (by rw [H2.out, HC.out]), Below.refl _ _⟩

theorem cntL_const {α : Type} (c : α → Nat) (n : Nat) (xs : List α) (h : ∀ x, c x = n) : cntL c xs = n * xs.length := by
  unfold cntL
  induction xs with
  | nil => simp
  | cons x xs ih => rw [List.map_cons, List.sum_cons, ih, h, List.length_cons, Nat.mul_succ]; omega

theorem ct_cost_L (xs : List Int) : ct_L xs ≤ 4 * cost_L xs := by
  have := cntL_const ct_i 1 xs fun _ => rfl
  unfold ct_L cost_L; omega

/-- A slice of the call's own, from block `base` on, holding flat elements. -/
def Row {α : Type} (E : Enc α) (enc : α → List Value) (t : TypeId) (w : World) (base : Nat) (v : Value) (xs : List α) : Prop :=
  w.ownsRow base t E.size v xs.length (xs.flatMap enc) ∧ ∀ x ∈ xs, ∀ W : World, E.O W (fun _ => False) (enc x) x

theorem flat_get {α : Type} (enc : α → List Value) (s : Nat) : ∀ (xs : List α), (∀ x ∈ xs, (enc x).length = s) → ∀ (i : Nat) (x : α), xs[i]? = some x → ∀ j, j < s → (xs.flatMap enc)[i * s + j]? = (enc x)[j]?
  | [], _, i, x, hx, _, _ => by simp at hx
  | y :: ys, h, 0, x, hx, j, hj => by
    simp at hx; subst hx
    rw [List.flatMap_cons, Nat.zero_mul, Nat.zero_add, List.getElem?_append_left (by rw [h y (by simp)]; exact hj)]
  | y :: ys, h, i + 1, x, hx, j, hj => by
    have hy := h y (by simp)
    rw [List.flatMap_cons, Nat.succ_mul, List.getElem?_append_right (by rw [hy]; omega), hy, show i * s + s + j - s = i * s + j from by omega]
    exact flat_get enc s ys (fun z hz => h z (by simp [hz])) i x (by simpa using hx) j hj

theorem Row.so {α : Type} {E : Enc α} {enc : α → List Value} {t : TypeId} {w0 w : World} {v : Value} {xs : List α} (h : Row E enc t w w0.heap.size v xs) : ∃ A c, v = .slice A xs.length c ∧ So E w (Fr w0 w) A c xs := by
  obtain ⟨h1, h2⟩ := h
  rcases h1.2 with ⟨rfl, hn⟩ | ⟨g, cap, cur, rfl, hg, hh, hnc, hcm, hcs, htk⟩
  · have hx : xs = [] := List.eq_nil_of_length_eq_zero hn
    subst hx
    exact ⟨none, 0, rfl, So.nil (Nat.zero_le _)⟩
  · refine ⟨_, cap, rfl, hnc, hcm, fun hne => ⟨g, 0, t, cur, fun _ _ => False, rfl, ⟨hg, Blk.lt (t := t) (cur := cur) hh⟩, hh, fun _ _ h => h.elim, fun _ _ _ h => h.elim, fun i x hx => ⟨enc x, h2 x (List.mem_of_getElem? hx) w, fun j u hu => ?_⟩⟩⟩
    have hi := (List.getElem?_eq_some_iff.1 hx).1
    have hj := (List.getElem?_eq_some_iff.1 hu).1
    have hl : ∀ y ∈ xs, (enc y).length = E.size := fun y hy => E.len (E.read (h2 y hy w))
    rw [hl x (List.mem_of_getElem? hx)] at hj
    have h3 := flat_get enc E.size xs hl i x hx j hj
    rw [← htk] at h3
    have hlt : i * E.size + j < xs.length * E.size := by
      have : (i + 1) * E.size ≤ xs.length * E.size := Nat.mul_le_mul_right _ (by omega)
      rw [Nat.succ_mul] at this; omega
    rw [List.getElem?_take_of_lt hlt, Array.getElem?_toList] at h3
    rw [Nat.zero_add, h3]; exact hu

theorem Row.nil {α : Type} {E : Enc α} {enc : α → List Value} {t : TypeId} {w : World} {base : Nat} : Row E enc t w base (.slice none 0 0) [] := ⟨World.ownsRow_nil _ _ _ _, fun _ h => by simp at h⟩

/-- `[]T{}`: an empty row of its own. -/
theorem Row.empty {α : Type} {E : Enc α} {enc : α → List Value} {t : TypeId} {w : World} {base : Nat} (hb : base ≤ w.heap.size) : Row E enc t (w.alloc (.cells #[] t)) base (.slice (some ⟨w.heap.size, 0, none⟩) 0 0) [] :=
  ⟨⟨by simp, .inr ⟨_, 0, #[], rfl, hb, Blk.new w t #[], Nat.le_refl _, Nat.zero_le _, by simp, by simp⟩⟩, fun _ h => by simp at h⟩

def encInt (x : Int) : List Value := [.int .i64 x]

theorem Row.keep {α : Type} {E : Enc α} {enc : α → List Value} {t : TypeId} {w w' : World} {base : Nat} {v : Value} {xs : List α} (h : Row E enc t w base v xs) (hk : ∀ b, v.ownBlock = some b → w'.heap[b]? = w.heap[b]?) : Row E enc t w' base v xs := by
  obtain ⟨⟨h1, h2⟩, h3⟩ := h
  refine ⟨⟨h1, ?_⟩, h3⟩
  rcases h2 with h2 | ⟨g, cap, cur, rfl, hg, hh, r⟩
  · exact .inl h2
  · exact .inr ⟨g, cap, cur, rfl, hg, (hk g rfl).trans hh, r⟩

theorem Row.lt {α : Type} {E : Enc α} {enc : α → List Value} {t : TypeId} {w : World} {base : Nat} {v : Value} {xs : List α} (h : Row E enc t w base v xs) : ∀ b, v.ownBlock = some b → base ≤ b ∧ b < w.heap.size := h.1.lt

theorem Row.on {α : Type} {E : Enc α} {enc : α → List Value} {t : TypeId} {w w' : World} {base : Nat} {v : Value} {xs : List α} (h : Row E enc t w base v xs) (hb : Below w.heap.size w w') : Row E enc t w' base v xs := h.keep fun b hv => hb.block b (h.lt b hv).2

theorem Row.snoc {α : Type} {E : Enc α} {enc : α → List Value} {t : TypeId} {w w' : World} {base : Nat} {v v' : Value} {xs : List α} {x : α} (h : Row E enc t w base v xs) (ho : w'.ownsRow base t E.size v' (xs.length + 1) (xs.flatMap enc ++ enc x)) (hx : ∀ W : World, E.O W (fun _ => False) (enc x) x) : Row E enc t w' base v' (xs ++ [x]) := by
  refine ⟨?_, fun y hy => ?_⟩
  · rw [List.length_append, List.length_singleton, List.flatMap_append]
    simpa using ho
  · rcases List.mem_append.1 hy with h1 | h1
    · exact h.2 y h1
    · rw [List.mem_singleton.1 h1]; exact hx

/-- Elements whose cells lead nowhere. -/
structure Flat {α : Type} (E : Enc α) (enc : α → List Value) : Prop where
  r : ∀ {W : World} {S : Nat → Prop} {cs : List Value} {x : α}, E.R W S cs x → cs = enc x ∧ ∀ W' : World, E.O W' (fun _ => False) (enc x) x
  one : ∀ (x : α), ∀ u ∈ enc x, u.oneCell' = true

theorem flat_int : Flat eInt encInt := ⟨fun h => ⟨h.1, fun _ => ⟨rfl, h.2⟩⟩, fun x u hu => by simp [encInt] at hu; subst hu; rfl⟩

theorem flatMap_at {α : Type} (enc : α → List Value) (s : Nat) (hs : 0 < s) : ∀ (ys : List α), (∀ y ∈ ys, (enc y).length = s) → ∀ (j : Nat) (u : Value), (ys.flatMap enc)[j]? = some u → ∃ y, ys[j / s]? = some y ∧ (enc y)[j % s]? = some u
  | [], _, j, u, h => by simp at h
  | y :: ys, hl, j, u, h => by
    have hy := hl y (by simp)
    rw [List.flatMap_cons] at h
    by_cases hj : j < s
    · rw [List.getElem?_append_left (by omega)] at h
      exact ⟨y, by rw [Nat.div_eq_of_lt hj]; rfl, by rw [Nat.mod_eq_of_lt hj]; exact h⟩
    · rw [List.getElem?_append_right (by omega), hy] at h
      obtain ⟨z, h1, h2⟩ := flatMap_at enc s hs ys (fun z hz => hl z (by simp [hz])) (j - s) u h
      refine ⟨z, ?_, ?_⟩
      · rw [Nat.div_eq_sub_div hs (by omega), List.getElem?_cons_succ]; exact h1
      · rw [Nat.mod_eq_sub_mod (by omega)]; exact h2

theorem flatMap_len {α : Type} (enc : α → List Value) (s : Nat) (ys : List α) (h : ∀ y ∈ ys, (enc y).length = s) : (ys.flatMap enc).length = ys.length * s := by
  induction ys with
  | nil => simp
  | cons y ys ih => rw [List.flatMap_cons, List.length_append, ih (fun z hz => h z (by simp [hz])), h y (by simp), List.length_cons, Nat.succ_mul]; omega

theorem Flat.sl {α : Type} {E : Enc α} {enc : α → List Value} (hf : Flat E enc) {w : World} {S : Nat → Prop} {A : Option Addr} {c : Nat} {ys : List α} (h : Sl E w S A c ys) : ∀ y ∈ ys, ∀ W : World, E.O W (fun _ => False) (enc y) y := by
  intro y hy
  obtain ⟨i, hi, rfl⟩ := List.getElem_of_mem hy
  obtain ⟨b, off, es, _, _, h1, _⟩ := h.at hi
  exact (hf.r h1).2

theorem Flat.len {α : Type} {E : Enc α} {enc : α → List Value} {y : α} (h : ∀ W : World, E.O W (fun _ => False) (enc y) y) : (enc y).length = E.size := E.len (E.read (h default))

theorem Flat.cells {α : Type} {E : Enc α} {enc : α → List Value} (hf : Flat E enc) {w : World} {S : Nat → Prop} {b off : Nat} {c : Nat} {ys : List α} (h : Sl E w S (some ⟨b, off, none⟩) c ys) : ∀ j u, (ys.flatMap enc)[j]? = some u → w.cell? ((⟨b, off, none⟩ : Addr).add j) = some u := by
  intro j u hu
  obtain ⟨y, h1, h2⟩ := flatMap_at enc E.size E.pos ys (fun y hy => Flat.len (hf.sl h y hy)) j u hu
  have hi := (List.getElem?_eq_some_iff.1 h1).1
  obtain ⟨b', off', es, hA, _, h3, h4⟩ := h.at hi
  simp only [Option.some.injEq, Addr.mk.injEq, and_true] at hA
  obtain ⟨rfl, rfl⟩ := hA
  have hy : ys[j / E.size] = y := (List.getElem?_eq_some_iff.1 h1).2
  rw [hy] at h3
  rw [(hf.r h3).1] at h4
  have := h4 (j % E.size) u h2
  rw [show off + j / E.size * E.size + j % E.size = off + j from by rw [Nat.add_assoc, Nat.div_add_mod']] at this
  rw [Addr.add_lit]; exact this

/-- The facts on a type of elements that an append wants. -/
structure Elem {α : Type} (P : Program) (E : Enc α) (t e : TypeId) (bytes : Nat) : Prop where
  under : P.underlying t = some (.slice e)
  info : ∃ i z, P.info? e = some i ∧ i.zero = some z ∧ i.size = E.size ∧ i.bytes = bytes ∧ z.cells.size = E.size

theorem Row.all {α : Type} {E : Enc α} {enc : α → List Value} {t : TypeId} {w : World} {base : Nat} {v : Value} {xs ys : List α} (h : Row E enc t w base v xs) {w' : World} {v' : Value} (ho : w'.ownsRow base t E.size v' (xs.length + ys.length) (xs.flatMap enc ++ ys.flatMap enc)) (hy : ∀ y ∈ ys, ∀ W : World, E.O W (fun _ => False) (enc y) y) : Row E enc t w' base v' (xs ++ ys) := by
  refine ⟨by rw [List.length_append, List.flatMap_append]; exact ho, fun y hm => ?_⟩
  rcases List.mem_append.1 hm with h1 | h1
  · exact h.2 y h1
  · exact hy y h1

theorem Row.shape {α : Type} {E : Enc α} {enc : α → List Value} {t : TypeId} {w : World} {base : Nat} {v : Value} {xs : List α} (h : Row E enc t w base v xs) : ∃ A c, v = .slice A xs.length c ∧ xs.length ≤ c ∧ c ≤ maxLen := by
  rcases h.1.2 with ⟨rfl, hn⟩ | ⟨g, cap, cur, rfl, hg, hh, hnc, hcm, _⟩
  · exact ⟨none, 0, by rw [hn], by omega, Nat.zero_le _⟩
  · exact ⟨_, cap, rfl, hnc, hcm⟩

theorem run_append_row {α : Type} {P : Program} {E : Enc α} {enc : α → List Value} (hf : Flat E enc) {t e : TypeId} {bytes : Nat} (he : Elem P E t e bytes) (ty : TypeId) {w : World} {base : Nat} {v : Value} {xs ys : List α} (hR : Row E enc e w base v xs)
    {S : Nat → Prop} {A : Option Addr} {c : Nat} (hS : Sl E w S A c ys) (h63 : xs.length + ys.length ≤ maxLen) (hbytes : (xs.length + ys.length) * bytes ≤ 140737488355328) (hbase : base ≤ w.heap.size) :
    ∃ v' w', (Builtin.append_ #[t, t] ty #[v, .slice A ys.length c]).run P w = .ok v' w' ∧ Row E enc e w' base v' (xs ++ ys) ∧ w.grownBy w' v.ownBlock ∧ (v'.ownBlock = v.ownBlock ∨ v'.ownBlock = some w.heap.size) := by
  obtain ⟨i, z, hi, hz0, hz1, hz2, hz3⟩ := he.info
  have hlen : ∀ y ∈ ys, (enc y).length = E.size := fun y hy => Flat.len (hf.sl hS y hy)
  cases A with
  | none =>
    have hy : ys = [] := Classical.byContradiction fun hn => by
      obtain ⟨b, off, hA, _⟩ := hS.2.2 hn
      cases hA
    subst hy
    obtain ⟨A', c', rfl, hle, _⟩ := hR.shape
    refine ⟨_, w, run_append_nothing w t t ty e i he.under hi A' xs.length c' hle (.slice none 0 c) (Src.ofNil w he.under c), by rw [List.append_nil]; exact hR, World.grownBy.refl _ _, .inl rfl⟩
  | some ad =>
    obtain ⟨b, off, sp⟩ := ad
    by_cases hn : ys = []
    · subst hn
      obtain ⟨v', w', h1, h2, h3, h4, h5⟩ := run_append_own_at (P := P) w base t ty e i z E.size bytes he.under hi hz0 hz1 hz2 hz3 E.pos v xs.length (xs.flatMap enc) hR.1 ⟨b, off, sp⟩ 0 c [] (by simp) (fun j u h => by simp at h) (fun u h => by simp at h) h63 hbytes hbase
      exact ⟨v', w', h1, hR.all h2 (fun y hy => by simp at hy), h3, h5⟩
    · obtain ⟨b', off', hA, _⟩ := hS.2.2 hn
      simp only [Option.some.injEq, Addr.mk.injEq] at hA
      obtain ⟨rfl, rfl, rfl⟩ := hA
      obtain ⟨v', w', h1, h2, h3, h4, h5⟩ := run_append_own_at (P := P) w base t ty e i z E.size bytes he.under hi hz0 hz1 hz2 hz3 E.pos v xs.length (xs.flatMap enc) hR.1 ⟨b, off, none⟩ ys.length c (ys.flatMap enc) (flatMap_len enc E.size ys hlen) (hf.cells hS)
        (fun u hu => by obtain ⟨y, _, h⟩ := List.mem_flatMap.1 hu; exact hf.one y u h) h63 hbytes hbase
      exact ⟨v', w', h1, hR.all h2 (hf.sl hS), h3, h5⟩

theorem wpList_append_row {α : Type} {P : Program} {E : Enc α} {enc : α → List Value} (hf : Flat E enc) {t e : TypeId} {bytes : Nat} (he : Elem P E t e bytes) {ops : Array Oper} {rest : List Oper} {o : Oper} {a : Act} {Q : Exit → Act → World → Prop} {w : World} (hgd : o.guard = none) (s x : Operand)
    (ho : o.op = .call { callee := .builtin .append, args := #[s, x], argTypes := #[t, t] }) {base : Nat} {v : Value} {xs ys : List α} (hs : a.eval s = v) (hR : Row E enc e w base v xs)
    {S : Nat → Prop} {A : Option Addr} {c : Nat} (hx : a.eval x = .slice A ys.length c) (hS : Sl E w S A c ys) (h63 : xs.length + ys.length ≤ maxLen) (hbytes : (xs.length + ys.length) * bytes ≤ 140737488355328) (hbase : base ≤ w.heap.size)
    (h : ∀ v' w', Row E enc e w' base v' (xs ++ ys) → w.grownBy w' v.ownBlock → (v'.ownBlock = v.ownBlock ∨ v'.ownBlock = some w.heap.size) → wpList P ops Q rest (a.put o.dst v') w') :
    wpList P ops Q (o :: rest) a w := by
  refine wpList_plain hgd fun K hK => ?_
  obtain ⟨v', w', hr, h2, h3, h4⟩ := run_append_row hf he o.type hR hS h63 hbytes hbase
  unfold Oper.wp execOp
  simp only [ho, resolve, invoke, builtin, Sem.run_bind, Sem.run_pure, Result.andThen_ok, List.map_toArray, List.map_cons, List.map_nil, hs, hx, hr]
  exact hK _ _ (h v' w' h2 h3 h4)

theorem So.take {α : Type} {E : Enc α} {w : World} {S : Nat → Prop} {A : Option Addr} {c : Nat} {xs : List α} (h : So E w S A c xs) (k : Nat) : So E w S A c (xs.take k) :=
  ⟨by have := h.1; rw [List.length_take]; omega, h.2.1, fun hn => by
    obtain ⟨b, off, t, cur, T, hA, hb, hB, hT, hd, hc⟩ := h.2.2 (by rintro rfl; simp at hn)
    refine ⟨b, off, t, cur, T, hA, hb, hB, hT, hd, fun i x hx => hc i x ?_⟩
    rw [List.getElem?_take] at hx
    split at hx
    · exact hx
    · cases hx⟩

theorem Sl.take {α : Type} {E : Enc α} {w : World} {S : Nat → Prop} {A : Option Addr} {c : Nat} {xs : List α} (h : Sl E w S A c xs) (k : Nat) : Sl E w S A c (xs.take k) :=
  ⟨by have := h.1; rw [List.length_take]; omega, h.2.1, fun hn => by
    obtain ⟨b, off, hA, hb, hc⟩ := h.2.2 (by rintro rfl; simp at hn)
    refine ⟨b, off, hA, hb, fun i x hx => hc i x ?_⟩
    rw [List.getElem?_take] at hx
    split at hx
    · exact hx
    · cases hx⟩

/-- One number of an owned slice rewritten. -/
theorem So.setI {w : World} {S : Nat → Prop} {b off c : Nat} {xs : List Int} (h : So eInt w S (some ⟨b, off, none⟩) c xs) {k : Nat} (hk : k < xs.length) {y : Int} (hy : I64 y) : So eInt (w.setCell ⟨b, off + k, none⟩ (.int .i64 y)) S (some ⟨b, off, none⟩) c (xs.set k y) := by
  obtain ⟨b', off', t, cur, T, es, hA, hb, hB, hT, hO, hcells, hre⟩ := h.at hk
  simp only [Option.some.injEq, Addr.mk.injEq, and_true] at hA
  obtain ⟨rfl, rfl⟩ := hA
  refine hre _ [.int .i64 y] y ⟨rfl, hy⟩ ?_ (fun m hm hne _ => Below.heap_setCell _ _ _ _ hne)
  rw [show off + k * eInt.size = off + k from by show off + k * 1 = _; omega]
  exact hB.set _ _

/-- What an owned slice of numbers holds, and that it may be written. -/
theorem So.getI {w : World} {S : Nat → Prop} {A : Option Addr} {c : Nat} {xs : List Int} (h : So eInt w S A c xs) {k : Nat} (hk : k < xs.length) : ∃ b off, A = some ⟨b, off, none⟩ ∧ S b ∧ I64 xs[k] ∧ w.cell? ⟨b, off + k, none⟩ = some (.int .i64 xs[k]) ∧ w.frozen? ⟨b, off + k, none⟩ = false := by
  obtain ⟨b, off, t, cur, T, es, rfl, hb, hB, hT, hO, hcells, _⟩ := h.at hk
  obtain ⟨rfl, hi⟩ := hO
  refine ⟨b, off, rfl, hb, hi, ?_, hB.frozen _⟩
  have := hcells 0 _ rfl
  rw [show off + k * eInt.size + 0 = off + k from by show off + k * 1 + 0 = _; omega] at this
  rw [hB.cell]; exact this

def evp (L : List (Nat × Value)) : List (Nat × Operand) → Option (List (Nat × Value))
  | [] => some []
  | (i, x) :: xs => match ev L x, evp L xs with
    | some v, some vs => some ((i, v) :: vs)
    | _, _ => none

theorem evp_map {n : Nat} {L : List (Nat × Value)} {a : Act} (hE : Env n L a) : ∀ (xs : List (Nat × Operand)) (vs : List (Nat × Value)), evp L xs = some vs → (xs.map fun p => (p.1, a.eval p.2)) = vs
  | [], vs, h => by simp [evp] at h; subst h; rfl
  | (i, x) :: xs, vs, h => by
    simp only [evp] at h
    cases h1 : ev L x with
    | none => simp [h1] at h
    | some v =>
      cases h2 : evp L xs with
      | none => simp [h1, h2] at h
      | some us =>
        simp [h1, h2] at h
        subst h
        rw [List.map_cons, hE.ev h1, evp_map hE xs us h2]

theorem foldl_setAll (off : Nat) : ∀ (vs : List Value) (k : Nat) (cs : Array Value), (vs.zipIdx k).foldl (fun cs (p : Value × Nat) => cs.setIfInBounds (off + p.2) p.1) cs = setAll cs (off + k) vs
  | [], _, _ => rfl
  | v :: vs, k, cs => by
    rw [List.zipIdx_cons, List.foldl_cons, foldl_setAll off vs (k + 1)]
    rfl

theorem setAll_split (pre mid post vs : List Value) (h : mid.length = vs.length) : setAll (pre ++ mid ++ post).toArray pre.length vs = (pre ++ vs ++ post).toArray := by
  apply Array.ext_getElem?
  intro i
  rw [get_setAll _ _ _ _ (by simp; omega)]
  by_cases h1 : pre.length ≤ i ∧ i < pre.length + vs.length
  · rw [if_pos h1]
    simp only [List.getElem?_toArray]
    rw [List.append_assoc, List.getElem?_append_right h1.1, List.getElem?_append_left (by omega)]
  · rw [if_neg h1]
    simp only [List.getElem?_toArray, List.append_assoc]
    by_cases h2 : i < pre.length
    · rw [List.getElem?_append_left h2, List.getElem?_append_left h2]
    · rw [List.getElem?_append_right (by omega), List.getElem?_append_right (by omega), List.getElem?_append_right (by omega), List.getElem?_append_right (by omega), h]

def numb (j : Nat) : List Value → List (Nat × Value)
  | [] => []
  | v :: vs => (j, v) :: numb (j + 1) vs

theorem fill_all (sz : Nat) : ∀ (vs : List Value) (j : Nat) (pre post : List Value), pre.length = j * sz → post.length = vs.length * sz → (∀ v ∈ vs, v.cells.size = sz) → Instr.fill (fun i => some (i * sz, sz)) (pre ++ post).toArray (numb j vs) = some (pre ++ (vs.map fun v => v.cells.toList).flatten).toArray
  | [], j, pre, post, _, h2, _ => by
    have : post = [] := List.eq_nil_of_length_eq_zero (by simpa using h2)
    subst this; simp [numb, Instr.fill]
  | v :: vs, j, pre, post, h1, h2, h3 => by
    have hv := h3 v (by simp)
    rw [List.length_cons, Nat.succ_mul] at h2
    have hsp : post = post.take sz ++ post.drop sz := (List.take_append_drop sz post).symm
    have hl : (post.take sz).length = v.cells.toList.length := by rw [List.length_take]; simp [hv]; omega
    have hset := setAll_split pre (post.take sz) (post.drop sz) v.cells.toList hl
    have ih := fill_all sz vs (j + 1) (pre ++ v.cells.toList) (post.drop sz) (by simp [h1, hv, Nat.succ_mul]) (by rw [List.length_drop]; omega) (fun u hu => h3 u (by simp [hu]))
    have hfold : v.cells.zipIdx.foldl (fun cs (p : Value × Nat) => cs.setIfInBounds (j * sz + p.2) p.1) (pre ++ post).toArray = (pre ++ v.cells.toList ++ post.drop sz).toArray := by
      rw [← Array.foldl_toList, Array.toList_zipIdx, foldl_setAll, Nat.add_zero, ← h1, ← hset, List.append_assoc, ← hsp]
    have hle : ¬ ((pre ++ post).toArray.size < j * sz + sz) := by simp; omega
    have hc : (v.cells.size ≠ sz || decide (j * sz + v.cells.size > (pre ++ post).toArray.size)) = false := by
      rw [hv]; simp; omega
    simp only [numb, Instr.fill]
    rw [if_neg (by rw [hc]; simp)]
    rw [show (v.cells.zipIdx.foldl (fun cs x => match x with | (c, j_1) => cs.setIfInBounds (j * sz + j_1) c) (pre ++ post).toArray) = (pre ++ v.cells.toList ++ post.drop sz).toArray from hfold, ih]
    simp

/-- A slice literal, all of its elements given. -/
theorem run_lit {P : Program} {n m : Nat} {a : Act} {L : List (Nat × Value)} {w : World} {t e : TypeId} {sz by_ : Nat} {ps : List (Nat × Operand)} {vs : List Value} {cs : List Value} {d : Option Tmp} {ty : TypeId} {pos : String} {af : Array Edge} {g : Option (Nat × Bool)} (hT : TSl P t e sz by_) (hE : Env n L a) (he : evp L ps = some (numb 0 vs)) (hm : vs.length = m) (hv : ∀ v ∈ vs, v.cells.size = sz) (hcs : (vs.map fun v => v.cells.toList).flatten = cs) (hb : m * sz ≤ 16777216) :
    (execOp a.eval ⟨d, .buildSlice t m ps.toArray, ty, pos, af, g⟩).run P w = .ok (.value (.slice (some ⟨w.heap.size, 0, none⟩) m m)) (w.alloc (.cells cs.toArray e)) := by
  obtain ⟨i, z, e1, e2, e3, e4, e5⟩ := hT.info
  subst hm hcs
  have hE' := evp_map hE ps _ he
  have hb' : ¬ (vs.length * i.size > 2 ^ 24) := by rw [e3]; omega
  have key : ∀ zero : Array Value, Instr.fill (fun i_1 => some (i_1 * i.size, i.size)) ((Array.range (vs.length * i.size)).map (zero[· % zero.size]!)) (numb 0 vs) = some (vs.map fun v => v.cells.toList).flatten.toArray := by
    intro zero
    have := fill_all sz vs 0 [] ((Array.range (vs.length * i.size)).map (zero[· % zero.size]!)).toList (by simp) (by simp [e3]) hv
    simp only [List.nil_append, Array.toArray_toList] at this
    rw [e3] at this ⊢; exact this
  simp only [execOp, Instr.buildSlice, List.map_toArray, hE', Sem.run_bind, run_underlying hT.under, Result.andThen_ok, sizeOf, typeInfo, run_program, e1, Sem.run_pure, hb', if_false]
  by_cases h0 : vs.length * i.size = 0
  · simp [h0, newRow] at key ⊢
    have := key #[]
    simp at this
    simp [this]
  · simp [h0, zeroValue, typeInfo, e1, e2, newRow, key]

theorem lkI {t : Nat} {L : List (Nat × Value)} {q : IntKind} {x y : Int} (h : lk t L = some (.int q x)) (e : x = y) : lk t L = some (.int q y) := e ▸ h

theorem Held.to {M : Nat → Prop} {w0 : World} {rs rs' : List Res} {w : World} (h : Held M w0 rs w) (e : rs = rs') : Held M w0 rs' w := e ▸ h

theorem Held.flatO {M : Nat → Prop} {w0 : World} {rs : List Res} {w : World} (h : Held M w0 rs w) {α : Type} {E : Enc α} {cs : List Value} {x : α} (ho : ∀ W, E.O W Nob cs x) : Held M w0 (rO E Nob cs x :: rs) w := h.new (Below.refl _ _) (rO E Nob cs x) (ho w) fun _ h => h.elim

/-- A store into an owned slice of numbers. -/
theorem st_storeI {P : Program} {ops : Array Oper} {Q : Exit → Act → World → Prop} {a : Act} {w : World} {K : Act → World → Prop} {n : Nat} {L : List (Nat × Value)} {M : Nat → Prop} {w0 : World} {rs : List Res} {t : TypeId} {z0 : Value} {x y : Operand} {S : Nat → Prop} {b off c k : Nat} {xs : List Int} {m : Int} {ty : TypeId} {pos : String} {af : Array Edge} {gd : Option (Nat × Bool)} (i : Nat) (hE : Env n L a) (hH : Held M w0 rs w) (ht : TV P t false [z0]) (hx : ev L x = some (.pointer (some ⟨b, off + k * 1, none⟩))) (hy : ev L y = some (.int .i64 m)) (hi : rs[i]? = some (rSo eInt S (some ⟨b, off, none⟩) c xs)) (hk : k < xs.length) (hm : I64 m) (hw : Region.wanted ⟨none, .store t x y, ty, pos, af, gd⟩ (yielded ops a.tmps) = true)
    (kk : ∀ w', Held M w0 (rs.set i (rSo eInt S (some ⟨b, off, none⟩) c (xs.set k m))) w' → K a w') : Stp P ops Q ⟨none, .store t x y, ty, pos, af, gd⟩ a w K := by
  have hso := so_of_o (hH.get hi)
  obtain ⟨b', off', hA, hb, _, hc, hf⟩ := hso.getI hk
  simp only [Option.some.injEq, Addr.mk.injEq, and_true] at hA
  obtain ⟨rfl, rfl⟩ := hA
  have h2 := hso.setI hk hm
  have hlen : (xs.set k m).length = xs.length := List.length_set
  have h3 : Held M w0 (rs.set i (rSo eInt S (some ⟨b, off, none⟩) c (xs.set k m))) (w.setCell ⟨b, off + k, none⟩ (.int .i64 m)) := hH.mut hi ((Chg.refl _ _).set (by exact hb) _) (rSo eInt S (some ⟨b, off, none⟩) c (xs.set k m)) (oSl h2) fun b hb => .inl hb
  refine st_skip hw ?_ rfl (kk _ h3)
  obtain ⟨ii, z, e1, _, e3, _⟩ := ht.info
  rw [Nat.mul_one] at hx
  simp only [execOp, hE.ev hx, hE.ev hy, Instr.storeAt, Instr.sureAddr, storeVar, sizeOf, typeInfo, Sem.run_bind, Sem.run_pure, Result.andThen_ok, run_program, e1]
  have e3' : ii.size = 1 := e3
  have hs : (Go.store ⟨b, off + k, none⟩ (.int .i64 m)).run P w = .ok () (w.setCell ⟨b, off + k, none⟩ (.int .i64 m)) := by simp [Go.store, Sem.run, hc, hf]
  simp [Value.cells, e3', storeCells, add_none, hs]

theorem tv_parts {P : Program} {t : TypeId} {z : Value} {n : Nat} (h : (P.info? t).map (fun i => (i.zero, i.size)) = some (some z, n)) : ∃ i, P.info? t = some i ∧ i.zero = some z ∧ i.size = n := by
  cases hi : P.info? t with
  | none => rw [hi] at h; cases h
  | some i =>
    rw [hi] at h
    simp only [Option.map_some, Option.some.injEq, Prod.mk.injEq] at h
    exact ⟨i, rfl, h.1, h.2⟩

theorem ts_parts {P : Program} {t : TypeId} {z : Value} {n b : Nat} (h : (P.info? t).map (fun i => (i.zero, i.size, i.bytes)) = some (some z, n, b)) : ∃ i, P.info? t = some i ∧ i.zero = some z ∧ i.size = n ∧ i.bytes = b := by
  cases hi : P.info? t with
  | none => rw [hi] at h; cases h
  | some i =>
    rw [hi] at h
    simp only [Option.map_some, Option.some.injEq, Prod.mk.injEq] at h
    exact ⟨i, rfl, h.1, h.2.1, h.2.2⟩

theorem so_rep {α : Type} {E : Enc α} {w : World} {g : Nat} {t : TypeId} {n : Nat} {v : Value} {x : α} (h1 : E.size = 1) (hO : ∀ W, E.O W Nob [v] x) (hB : Blk w g t (List.replicate n v).toArray) (hm : n ≤ maxLen) : So E w (fun b => b = g) (some ⟨g, 0, none⟩) n (List.replicate n x) :=
  ⟨by simp, hm, fun _ => ⟨g, 0, t, _, fun _ _ => False, rfl, rfl, hB, fun _ _ h => h.elim, fun _ _ _ h => h.elim, fun i y hy => by
    have hi := (List.getElem?_eq_some_iff.1 hy).1
    rw [List.length_replicate] at hi
    rw [List.getElem?_replicate_of_lt hi] at hy
    simp at hy; subst hy
    refine ⟨[v], E.omore (hO w) fun _ h => h.elim, fun j u hu => ?_⟩
    rcases j with _ | j
    · simp at hu; subst hu
      rw [h1]; simp [hi]
    · simp at hu⟩⟩

/-- make, of flat elements of one cell. -/
theorem st_make {P : Program} {ops : Array Oper} {Q : Exit → Act → World → Prop} {a : Act} {w : World} {K : Act → World → Prop} {n d : Nat} {L : List (Nat × Value)} {M : Nat → Prop} {w0 : World} {rs : List Res} {α : Type} {E : Enc α} {t e : TypeId} {by_ : Nat} {v : Value} {x : α} {y1 y2 : Operand} {k : Nat} {m m2 : Int} {ty : TypeId} {pos : String} {af : Array Edge} {gd : Option (Nat × Bool)} (hE : Env n L a) (hH : Held M w0 rs w) (ht : TSl P t e 1 by_) (hv : TV P e false [v]) (h1 : E.size = 1) (hO : ∀ W, E.O W Nob [v] x) (hy1 : ev L y1 = some (.int .i64 m)) (hy2 : ev L y2 = some (.int .i64 m2)) (hm : m = (k : Int)) (hm2 : m2 = (k : Int)) (hk : k * by_ ≤ 140737488355328) (hk1 : k ≤ 1000000000000) (hw : Region.wanted ⟨some d, .makeSlice t y1 y2, ty, pos, af, gd⟩ (yielded ops a.tmps) = true) (hn : Nat.blt d n = true)
    (kk : ∀ q a' w', Env n ((d, .slice (some ⟨q, 0, none⟩) (List.replicate k x).length k) :: L) a' → Held M w0 (rSo E (fun b => b = q) (some ⟨q, 0, none⟩) k (List.replicate k x) :: rs) w' → K a' w') : Stp P ops Q ⟨some d, .makeSlice t y1 y2, ty, pos, af, gd⟩ a w K := by
  obtain ⟨i, z, e1, e2, e3, e4, e5⟩ := ht.info
  obtain ⟨i', z', f1, f2, f3, f4⟩ := hv.info
  have hii : i' = i := by rw [e1] at f1; exact (Option.some.inj f1).symm
  subst hii
  have hzz : z' = z := by rw [e2] at f2; exact (Option.some.inj f2).symm
  subst hzz
  subst hm hm2
  have hmade : madeCells #[v] k = (List.replicate k v).toArray := by
    apply Array.ext
    · simp [madeCells]
    · intro j h1 h2
      have : j % 1 = 0 := Nat.mod_one j
      simp [madeCells, this]
  have hb1 : (i'.bytes : Int) * (k : Int) ≤ 281474976710656 := by
    have h : ((i'.bytes * k : Nat) : Int) ≤ 281474976710656 := by rw [e4, Nat.mul_comm]; omega
    rwa [Int.natCast_mul] at h
  have hr := run_make (P := P) w t e i' z' ht.under e1 e2 .i64 .i64 k k (by omega) (Int.le_refl _) hb1 (by omega)
  simp only [Int.toNat_natCast, e3, Nat.mul_one, f4] at hr
  have hrun : (execOp a.eval ⟨some d, .makeSlice t y1 y2, ty, pos, af, gd⟩).run P w = .ok (.value (.slice (some ⟨w.heap.size, 0, none⟩) k k)) (w.alloc (.cells (List.replicate k v).toArray e)) := by
    rw [← hmade]
    simp only [execOp, hE.ev hy1, hE.ev hy2, Sem.run_bind]
    rw [show ([v].toArray) = #[v] from rfl] at hr
    rw [hr]; rfl
  refine st_val hE hw hrun rfl hn fun a' hE' => ?_
  have hB := hH.alloc e (List.replicate k v)
  refine kk w.heap.size a' _ (by rw [List.length_replicate]; exact hE') ?_
  refine hB.turn _ (fun hb => ?_) fun _ hb => hb
  exact oSl (so_rep h1 hO hb (by unfold maxLen; omega))

theorem Env.castI {n t : Nat} {L : List (Nat × Value)} {a : Act} {q : IntKind} {x y : Int} (h : Env n L a) (hl : lk t L = some (.int q x)) (e : x = y) : Env n ((t, .int q y) :: L) a :=
  h.sub' fun s v hv => by
    simp only [lk] at hv
    by_cases hs : Nat.beq s t = true
    · rw [hs] at hv
      have hs' := Nat.eq_of_beq_eq_true hs
      subst hs' e
      simp at hv
      rw [hl, hv]
    · have hs' : Nat.beq s t = false := Bool.eq_false_iff.2 hs
      rw [hs'] at hv; exact hv

/-- A captured variable's cell, as a closure sees it. -/
theorem Held.capB {M : Nat → Prop} {w0 : World} {rs : List Res} {w W : World} {g : Nat} {t : TypeId} {cs : List Value} (h : Held M w0 rs w) (i : Nat) (hi : rs[i]? = some (rBlk g t cs)) (hb : Below w.heap.size w W) : ∀ j v, cs[j]? = some v → W.cell? ⟨g, 0 + j, none⟩ = some v := fun j v hv => by
  have hlt := (h.rng _ (List.mem_of_getElem? hi) g rfl).2
  rw [hb.cell (p := ⟨g, 0 + j, none⟩) hlt]
  exact c_blkN i hi w h j v hv

theorem Env.castS {n t m m' c : Nat} {A : Option Addr} {L : List (Nat × Value)} {a : Act} (h : Env n L a) (hl : lk t L = some (.slice A m c)) (e : m = m') : Env n ((t, .slice A m' c) :: L) a :=
  h.sub' fun s v hv => by
    simp only [lk] at hv
    by_cases hs : Nat.beq s t = true
    · rw [hs] at hv
      have hs' := Nat.eq_of_beq_eq_true hs
      subst hs' e
      simp at hv
      rw [hl, hv]
    · have hs' : Nat.beq s t = false := Bool.eq_false_iff.2 hs
      rw [hs'] at hv; exact hv

/-- What was there, outside M. -/
def Out (M : Nat → Prop) (w : World) (b : Nat) : Prop := b < w.heap.size ∧ ¬ M b

/-- The blocks of some parts. -/
def Foot (xs : List Res) (b : Nat) : Prop := ∃ r ∈ xs, r.S b

theorem Held.startM {w : World} {α : Type} {E : Enc α} {S : Nat → Prop} {cs : List Value} {x : α} (ho : E.O w S cs x) (hS : ∀ b, S b → b < w.heap.size) : Held S w [rO E S cs x] w :=
  ⟨Chg.refl _ _, (fun r hr => by simp at hr; subst hr; exact ho), (fun r hr b hb => by simp at hr; subst hr; exact ⟨.inl hb, hS b hb⟩), by simp⟩

theorem Held.focus {M0 : Nat → Prop} {w0 : World} {xs rs : List Res} {w : World} (h : Held M0 w0 (xs ++ rs) w) : Held (Foot xs) w xs w :=
  ⟨Chg.refl _ _, fun r hr => h.ok r (by simp [hr]), fun r hr b hb => ⟨.inl ⟨r, hr, hb⟩, (h.rng r (by simp [hr]) b hb).2⟩, (List.pairwise_append.1 h.sep).1⟩

theorem Held.back {M0 : Nat → Prop} {w0 : World} {xs ys rs : List Res} {w w' : World} (h : Held M0 w0 (xs ++ rs) w) (h' : Held (Foot xs) w ys w') : Held M0 w0 (ys ++ rs) w' where
  chg := by
    refine ⟨h'.chg.os.trans h.chg.os, h'.chg.tape.trans h.chg.tape, h'.chg.output.trans h.chg.output, Nat.le_trans h.chg.size h'.chg.size, fun k hk hM => ?_⟩
    refine (h'.chg.block k (Nat.lt_of_lt_of_le hk h.chg.size) ?_).trans (h.chg.block k hk hM)
    rintro ⟨r, hr, hb⟩
    rcases (h.rng r (by simp [hr]) k hb).1 with q | q
    · exact hM q
    · omega
  ok := by
    intro r hr
    rcases List.mem_append.1 hr with hr | hr
    · exact h'.ok r hr
    · refine r.loc w w' (fun b hb => h'.chg.block b (h.rng r (by simp [hr]) b hb).2 ?_) (h.ok r (by simp [hr]))
      rintro ⟨s, hs, hb'⟩
      exact (List.pairwise_append.1 h.sep).2.2 s hs r hr b hb' hb
  rng := by
    intro r hr b hb
    rcases List.mem_append.1 hr with hr | hr
    · obtain ⟨h1, h2⟩ := h'.rng r hr b hb
      refine ⟨?_, h2⟩
      rcases h1 with ⟨s, hs, hb'⟩ | h1
      · exact (h.rng s (by simp [hs]) b hb').1
      · exact .inr (Nat.le_trans h.size h1)
    · have h1 := h.rng r (by simp [hr]) b hb
      exact ⟨h1.1, Nat.lt_of_lt_of_le h1.2 h'.chg.size⟩
  sep := by
    refine List.pairwise_append.2 ⟨h'.sep, (List.pairwise_append.1 h.sep).2.1, fun r hr s hs b hb hb' => ?_⟩
    rcases (h'.rng r hr b hb).1 with ⟨q, hq, hb2⟩ | h1
    · exact (List.pairwise_append.1 h.sep).2.2 q hq s hs b hb2 hb'
    · have := (h.rng s (by simp [hs]) b hb').2; omega

theorem Held.oldM {M : Nat → Prop} {w0 : World} {rs : List Res} {w : World} {α : Type} {E : Enc α} {A : Option Addr} {c : Nat} {xs : List α} (h : Held M w0 rs w) (hs : Sl E w0 (Out M w0) A c xs) : Sl E w (Old w) A c xs :=
  (hs.keep (fun p hp => World.cell?_of_block (w := w0) (h.chg.block p.block hp.1 hp.2))).more fun b hb => Nat.lt_of_lt_of_le hb.1 h.chg.size

theorem Held.oldRM {M : Nat → Prop} {w0 : World} {rs : List Res} {w : World} {α : Type} {E : Enc α} {cs : List Value} {x : α} (h : Held M w0 rs w) (hs : E.R w0 (Out M w0) cs x) : E.R w (Old w) cs x :=
  E.more (E.keep hs (fun p hp => World.cell?_of_block (w := w0) (h.chg.block p.block hp.1 hp.2))) fun b hb => Nat.lt_of_lt_of_le hb.1 h.chg.size

/-- A borrowed slice, as a callee that rewrites xs sees it. -/
theorem Held.lend {w0 : World} {xs rs : List Res} {w : World} {α : Type} {E : Enc α} {A : Option Addr} {c : Nat} {zs : List α} (h : Held Nob w0 (xs ++ rs) w) (hs : Sl E w0 (Old w0) A c zs) : Sl E w (Out (Foot xs) w) A c zs :=
  (hs.keep (fun p hp => h.cell0 hp fun h => h)).more fun b hb => ⟨Nat.lt_of_lt_of_le hb h.size, by
    rintro ⟨r, hr, hb'⟩
    rcases (h.rng r (by simp [hr]) b hb').1 with q | q
    · exact q.elim
    · have : b < w0.heap.size := hb
      omega⟩

theorem Held.lendM {M : Nat → Prop} {w0 : World} {xs rs : List Res} {w : World} {α : Type} {E : Enc α} {A : Option Addr} {c : Nat} {zs : List α} (h : Held M w0 (xs ++ rs) w) (hs : Sl E w0 (Out M w0) A c zs) : Sl E w (Out (Foot xs) w) A c zs :=
  (hs.keep (fun p hp => h.cell0 hp.1 hp.2)).more fun b hb => ⟨Nat.lt_of_lt_of_le hb.1 h.size, by
    rintro ⟨r, hr, hb'⟩
    rcases (h.rng r (by simp [hr]) b hb').1 with q | q
    · exact hb.2 q
    · have : b < w0.heap.size := hb.1
      omega⟩

/-- The flat part in front given up. -/
theorem Held.unF {M : Nat → Prop} {w0 : World} {rs : List Res} {w : World} {α β : Type} {E : Enc α} {F : Enc β} {S : Nat → Prop} {v : Value} {cs : List Value} {x : α × β} (h1 : E.size = 1) (h : Held M w0 (rO (ePr E F) S (v :: cs) x :: rs) w) : Held M w0 (rO F S cs x.2 :: rs) w := by
  refine h.turn _ ?_ fun _ hb => hb
  rintro ⟨c1, c2, S1, S2, he, k1, k2, o1, o2⟩
  have hl := E.len (E.read o1)
  rw [h1] at hl
  obtain ⟨u, rfl⟩ := List.length_eq_one_iff.1 hl
  simp at he
  obtain ⟨_, rfl⟩ := he
  exact F.omore o2 k2

theorem Held.unP {M : Nat → Prop} {w0 : World} {rs : List Res} {w : World} {α β : Type} {E : Enc α} {F : Enc β} {S : Nat → Prop} {v : Value} {cs : List Value} {x : α × β} (h1 : E.size = 1) (h : Held M w0 (rO (ePr E F) S (v :: cs) x :: rs) w) : ∃ S1 S2, Held M w0 (rO E S1 [v] x.1 :: rO F S2 cs x.2 :: rs) w := by
  obtain ⟨c1, c2, S1, S2, he, k1, k2, o1, o2⟩ := h.ok _ (List.mem_cons_self)
  have hl := E.len (E.read o1)
  rw [h1] at hl
  obtain ⟨u, rfl⟩ := List.length_eq_one_iff.1 hl
  simp at he
  obtain ⟨rfl, rfl⟩ := he
  have hs := List.pairwise_cons.1 h.sep
  refine ⟨S1, S2, h.chg, ?_, ?_, ?_⟩
  · intro r hr
    simp only [List.mem_cons] at hr
    rcases hr with rfl | rfl | hr
    · exact o1
    · exact o2
    · exact h.ok r (by simp [hr])
  · intro r hr b hb
    simp only [List.mem_cons] at hr
    rcases hr with rfl | rfl | hr
    · exact h.rng _ (List.mem_cons_self) b (k1 b hb).1
    · exact h.rng _ (List.mem_cons_self) b (k2 b hb)
    · exact h.rng r (by simp [hr]) b hb
  · refine List.pairwise_cons.2 ⟨fun r hr b hb hb' => ?_, List.pairwise_cons.2 ⟨fun r hr b hb hb' => hs.1 r hr b (k2 b hb) hb', hs.2⟩⟩
    rcases List.mem_cons.1 hr with rfl | hr
    · exact (k1 b hb).2 hb'
    · exact hs.1 r hr b (k1 b hb).1 hb'

/-- An owned slice with one element laid open: its cells es; what the element owns (T) is held apart. -/
def Foc {α : Type} (E : Enc α) (w : World) (S : Nat → Prop) (b off c : Nat) (xs : List α) (k : Nat) (es : List Value) : Prop :=
  k < xs.length ∧ xs.length ≤ c ∧ c ≤ maxLen ∧ S b ∧ es.length = E.size ∧ ∃ (t : TypeId) (cur : Array Value) (T : Nat → Nat → Prop), Blk w b t cur ∧ (∀ i m, T i m → S m ∧ m ≠ b) ∧ (∀ i j m, T i m → T j m → i = j) ∧
    (∀ j v, es[j]? = some v → cur[off + k * E.size + j]? = some v) ∧ ∀ (i : Nat) (x : α), i ≠ k → xs[i]? = some x → ∃ us, E.O w (T i) us x ∧ ∀ j v, us[j]? = some v → cur[off + i * E.size + j]? = some v

theorem Foc.keep {α : Type} {E : Enc α} {w w' : World} {S : Nat → Prop} {b off c : Nat} {xs : List α} {k : Nat} {es : List Value} (h : Foc E w S b off c xs k es) (hk : ∀ b, S b → w'.heap[b]? = w.heap[b]?) : Foc E w' S b off c xs k es := by
  obtain ⟨h1, h2, h3, h4, h5, t, cur, T, hB, hT, hd, hc, hr⟩ := h
  refine ⟨h1, h2, h3, h4, h5, t, cur, T, (hk b h4).trans hB, hT, hd, hc, fun i x hi hx => ?_⟩
  obtain ⟨us, q1, q2⟩ := hr i x hi hx
  exact ⟨us, E.okeep q1 fun m hm => hk m (hT i m hm).1, q2⟩

def rFoc {α : Type} (E : Enc α) (S : Nat → Prop) (b off c : Nat) (xs : List α) (k : Nat) (es : List Value) : Res := ⟨S, fun w => Foc E w S b off c xs k es, fun _ _ h hf => hf.keep h⟩

theorem Held.open {M : Nat → Prop} {w0 : World} {rs : List Res} {w : World} {α : Type} {E : Enc α} {S : Nat → Prop} {A : Option Addr} {c : Nat} {xs : List α} (h : Held M w0 (rSo E S A c xs :: rs) w) {k : Nat} (hk : k < xs.length) :
    ∃ b off es T, A = some ⟨b, off, none⟩ ∧ E.R w (Old w) es xs[k] ∧ (∀ m, T m → S m ∧ m ≠ b) ∧ Held M w0 (rFoc E (fun m => S m ∧ ¬ T m) b off c xs k es :: rO E T es xs[k] :: rs) w := by
  have hso := so_of_o (h.ok _ (List.mem_cons_self))
  have hrng := h.rng _ (List.mem_cons_self)
  obtain ⟨b, off, t, cur, T, hA, hb, hB, hT, hd, hc⟩ := hso.2.2 (by intro e; subst e; simp at hk)
  obtain ⟨es, h1, h2⟩ := hc k xs[k] (List.getElem?_eq_getElem hk)
  have hs := List.pairwise_cons.1 h.sep
  refine ⟨b, off, es, T k, hA, E.more (E.read h1) (fun m hm => (hrng m (hT k m hm).1).2), fun m hm => hT k m hm, h.chg, ?_, ?_, ?_⟩
  · intro r hr
    simp only [List.mem_cons] at hr
    rcases hr with rfl | rfl | hr
    · refine ⟨hk, hso.1, hso.2.1, ⟨hb, fun hm => (hT k b hm).2 rfl⟩, E.len (E.read h1), t, cur, fun i m => i ≠ k ∧ T i m, hB, fun i m hm => ⟨⟨(hT i m hm.2).1, fun hm' => hm.1 (hd i k m hm.2 hm')⟩, (hT i m hm.2).2⟩, fun i j m h3 h4 => hd i j m h3.2 h4.2, h2, fun i x hi hx => ?_⟩
      obtain ⟨us, q1, q2⟩ := hc i x hx
      exact ⟨us, E.omore q1 fun m hm => ⟨hi, hm⟩, q2⟩
    · exact h1
    · exact h.ok r (by simp [hr])
  · intro r hr m hm
    simp only [List.mem_cons] at hr
    rcases hr with rfl | rfl | hr
    · exact hrng m hm.1
    · exact hrng m (hT k m hm).1
    · exact h.rng r (by simp [hr]) m hm
  · refine List.pairwise_cons.2 ⟨fun r hr m hm hm' => ?_, List.pairwise_cons.2 ⟨fun r hr m hm hm' => hs.1 r hr m (hT k m hm).1 hm', hs.2⟩⟩
    rcases List.mem_cons.1 hr with rfl | hr
    · exact hm.2 hm'
    · exact hs.1 r hr m hm.1 hm'

theorem Held.shut {M : Nat → Prop} {w0 : World} {rs : List Res} {w : World} {α : Type} {E : Enc α} {S T : Nat → Prop} {b off c k : Nat} {xs : List α} {es : List Value} {y : α} (h : Held M w0 (rFoc E S b off c xs k es :: rO E T es y :: rs) w) : Held M w0 (rSo E (fun m => S m ∨ T m) (some ⟨b, off, none⟩) c (xs.set k y) :: rs) w := by
  refine h.join _ (fun hf ho hd => ?_) fun _ hb => hb
  obtain ⟨h1, h2, h3, h4, h5, t, cur, T', hB, hT, hd', hc, hr⟩ := hf
  refine oSl ⟨by rw [List.length_set]; exact h2, h3, fun _ => ⟨b, off, t, cur, fun i m => (i = k ∧ T m) ∨ (i ≠ k ∧ T' i m), rfl, .inl h4, hB, ?_, ?_, fun i x hx => ?_⟩⟩
  · rintro i m (⟨_, hm⟩ | ⟨_, hm⟩)
    · exact ⟨.inr hm, fun e => hd b h4 (e ▸ hm)⟩
    · exact ⟨.inl (hT i m hm).1, (hT i m hm).2⟩
  · rintro i j m (⟨hi, hm⟩ | ⟨hi, hm⟩) (⟨hj, hm'⟩ | ⟨hj, hm'⟩)
    · rw [hi, hj]
    · exact absurd hm (hd m (hT j m hm').1)
    · exact absurd hm' (hd m (hT i m hm).1)
    · exact hd' i j m hm hm'
  · by_cases e : i = k
    · subst e
      rw [List.getElem?_set_self h1] at hx
      simp at hx; subst hx
      exact ⟨es, E.omore ho fun m hm => .inl ⟨rfl, hm⟩, hc⟩
    · rw [List.getElem?_set_ne (fun h => e h.symm)] at hx
      obtain ⟨us, q1, q2⟩ := hr i x e hx
      exact ⟨us, E.omore q1 fun m hm => .inr ⟨e, hm⟩, q2⟩

theorem Held.relen {M : Nat → Prop} {w0 : World} {rs : List Res} {w : World} {α : Type} {E : Enc α} {S : Nat → Prop} {A : Option Addr} {c n : Nat} {xs : List α} (h : Held M w0 (rSo E S A c xs :: rs) w) (hn : xs.length = n) : Held M w0 (rO (eSl E) S [.slice A n c] xs :: rs) w := hn ▸ h

theorem Held.lt {M : Nat → Prop} {w0 : World} {rs : List Res} {w : World} (h : Held M w0 rs w) {i : Nat} {r : Res} (hi : rs[i]? = some r) : ∀ b, r.S b → b < w.heap.size := fun b hb => (h.rng r (List.mem_of_getElem? hi) b hb).2

/-- What a callee made, beside what is held. -/
theorem Held.app {M : Nat → Prop} {w0 : World} {rs qs : List Res} {w w' : World} (h : Held M w0 rs w) (h' : Held Nob w qs w') : Held M w0 (qs ++ rs) w' where
  chg := (h.on h'.below).chg
  ok := by
    intro r hr
    rcases List.mem_append.1 hr with hr | hr
    · exact h'.ok r hr
    · exact (h.on h'.below).ok r hr
  rng := by
    intro r hr b hb
    rcases List.mem_append.1 hr with hr | hr
    · have h1 := h'.rng r hr b hb
      exact ⟨.inr (Nat.le_trans h.size (h1.1.resolve_left fun q => q.elim)), h1.2⟩
    · exact (h.on h'.below).rng r hr b hb
  sep := by
    refine List.pairwise_append.2 ⟨h'.sep, h.sep, fun r hr s hs b hb hb' => ?_⟩
    have h1 := (h'.rng r hr b hb).1.resolve_left fun q => q.elim
    have h2 := (h.rng s hs b hb').2
    omega

/-- Held only if p holds. -/
def rIf (p : Prop) (r : Res) : Res := ⟨r.S, fun w => p → r.φ w, fun w w' h hp hq => r.loc w w' h (hp hq)⟩

theorem Held.toIf {M : Nat → Prop} {w0 : World} {rs : List Res} {r : Res} {w : World} (h : Held M w0 (r :: rs) w) (p : Prop) : Held M w0 (rIf p r :: rs) w :=
  h.turn (rIf p r) (fun hr _ => hr) fun _ h => h

theorem Held.ofIf {M : Nat → Prop} {w0 : World} {rs : List Res} {r : Res} {w : World} {p : Prop} (h : Held M w0 (rIf p r :: rs) w) (hp : p) : Held M w0 (r :: rs) w :=
  h.turn r (fun hr => hr hp) fun _ h => h

theorem Held.noIf {M : Nat → Prop} {w0 : World} {rs : List Res} {w : World} {p : Prop} (h : Held M w0 rs w) {α : Type} {E : Enc α} {A : Option Addr} {c : Nat} {xs : List α} (r : Res) (hp : ¬ p) (hr : r = rSo E Nob A c xs := by rfl) : Held M w0 (rIf p r :: rs) w := by
  subst hr
  exact h.new (Below.refl _ _) (rIf p (rSo E Nob A c xs)) (fun hq => absurd hq hp) fun _ h => h.elim

theorem tv_2 : TV Try.prog 2 false [.int .i64 0] := by
  obtain ⟨i, h1, h2, h3⟩ := tv_parts (show (Try.prog.info? 2).map (fun i => (i.zero, i.size)) = some (some (.int .i64 0), 1) from by kernel_rfl)
  exact ⟨⟨_, Try.underlying2, rfl⟩, i, _, h1, h2, h3, rfl⟩

theorem ts_31 : TSl Try.prog 31 2 1 8 := by
  obtain ⟨i, h1, h2, h3, h4⟩ := ts_parts (show (Try.prog.info? 2).map (fun i => (i.zero, i.size, i.bytes)) = some (some (.int .i64 0), 1, 8) from by kernel_rfl)
  exact ⟨Try.underlying31, i, _, h1, h2, h3, h4, rfl⟩

theorem en_23 : ∀ args w, (callFunc 23 args).run Try.prog w = .ok (.enter 23 args) w := enters_of Try.func23 (by kernel_rfl) rfl

theorem en_26 : ∀ args w, (callFunc 26 args).run Try.prog w = .ok (.enter 26 args) w := enters_of Try.func26 (by kernel_rfl) rfl

theorem en_34 : ∀ args w, (callFunc 34 args).run Try.prog w = .ok (.enter 34 args) w := enters_of Try.func34 (by kernel_rfl) rfl

theorem en_44 : ∀ args w, (callFunc 44 args).run Try.prog w = .ok (.enter 44 args) w := enters_of Try.func44 (by kernel_rfl) rfl

theorem en_45 : ∀ args w, (callFunc 45 args).run Try.prog w = .ok (.enter 45 args) w := enters_of Try.func45 (by kernel_rfl) rfl

theorem en_46 : ∀ args w, (callFunc 46 args).run Try.prog w = .ok (.enter 46 args) w := enters_of Try.func46 (by kernel_rfl) rfl

theorem en_67 : ∀ args w, (callFunc 67 args).run Try.prog w = .ok (.enter 67 args) w := enters_of Try.func67 (by kernel_rfl) rfl

theorem en_69 : ∀ args w, (callFunc 69 args).run Try.prog w = .ok (.enter 69 args) w := enters_of Try.func69 (by kernel_rfl) rfl

theorem en_88 : ∀ args w, (callFunc 88 args).run Try.prog w = .ok (.enter 88 args) w := enters_of Try.func88 (by kernel_rfl) rfl

theorem en_90 : ∀ args w, (callFunc 90 args).run Try.prog w = .ok (.enter 90 args) w := enters_of Try.func90 (by kernel_rfl) rfl

theorem en_91 : ∀ args w, (callFunc 91 args).run Try.prog w = .ok (.enter 91 args) w := enters_of Try.func91 (by kernel_rfl) rfl

theorem en_96 : ∀ args w, (callFunc 96 args).run Try.prog w = .ok (.enter 96 args) w := enters_of Try.func96 (by kernel_rfl) rfl

theorem en_97 : ∀ args w, (callFunc 97 args).run Try.prog w = .ok (.enter 97 args) w := enters_of Try.func97 (by kernel_rfl) rfl

theorem en_98 : ∀ args w, (callFunc 98 args).run Try.prog w = .ok (.enter 98 args) w := enters_of Try.func98 (by kernel_rfl) rfl

theorem en_99 : ∀ args w, (callFunc 99 args).run Try.prog w = .ok (.enter 99 args) w := enters_of Try.func99 (by kernel_rfl) rfl

theorem en_100 : ∀ args w, (callFunc 100 args).run Try.prog w = .ok (.enter 100 args) w := enters_of Try.func100 (by kernel_rfl) rfl

theorem en_101 : ∀ args w, (callFunc 101 args).run Try.prog w = .ok (.enter 101 args) w := enters_of Try.func101 (by kernel_rfl) rfl

theorem en_102 : ∀ args w, (callFunc 102 args).run Try.prog w = .ok (.enter 102 args) w := enters_of Try.func102 (by kernel_rfl) rfl

theorem en_103 : ∀ args w, (callFunc 103 args).run Try.prog w = .ok (.enter 103 args) w := enters_of Try.func103 (by kernel_rfl) rfl

theorem en_104 : ∀ args w, (callFunc 104 args).run Try.prog w = .ok (.enter 104 args) w := enters_of Try.func104 (by kernel_rfl) rfl

theorem en_105 : ∀ args w, (callFunc 105 args).run Try.prog w = .ok (.enter 105 args) w := enters_of Try.func105 (by kernel_rfl) rfl

theorem en_106 : ∀ args w, (callFunc 106 args).run Try.prog w = .ok (.enter 106 args) w := enters_of Try.func106 (by kernel_rfl) rfl

theorem en_107 : ∀ args w, (callFunc 107 args).run Try.prog w = .ok (.enter 107 args) w := enters_of Try.func107 (by kernel_rfl) rfl

theorem en_157 : ∀ args w, (callFunc 157 args).run Try.prog w = .ok (.enter 157 args) w := enters_of Try.func157 (by kernel_rfl) rfl

theorem en_158 : ∀ args w, (callFunc 158 args).run Try.prog w = .ok (.enter 158 args) w := enters_of Try.func158 (by kernel_rfl) rfl

theorem en_159 : ∀ args w, (callFunc 159 args).run Try.prog w = .ok (.enter 159 args) w := enters_of Try.func159 (by kernel_rfl) rfl

theorem en_161 : ∀ args w, (callFunc 161 args).run Try.prog w = .ok (.enter 161 args) w := enters_of Try.func161 (by kernel_rfl) rfl

theorem hmix : Try.prog.follows .mixedOrders = true := by kernel_rfl

theorem ct_L_len (xs : List Int) : ct_L xs = xs.length := by
  have := cntL_const ct_i 1 xs fun _ => rfl
  unfold ct_L; omega

theorem elem_Int64 : Elem Try.prog eInt 31 2 8 := by
  obtain ⟨i0, hi0, hz0, hz1, hz2⟩ := info_parts info_impl_Int64
  exact ⟨Try.underlying31, i0, _, hi0, hz0, hz1, hz2, rfl⟩

set_option maxHeartbeats 400000 in
theorem spec_l00Own (A : Option Addr) (c : Nat) (xs : List Int) (w : World) (h : Sl eInt w (Old w) A c xs) (hsm : xs.length ≤ 1000000000000) :
    Calls Try.prog 90 #[.slice A xs.length c] w fun e w' => ∃ A' c', e = .returned (.slice A' xs.length c') ∧ So eInt w' (Fr w w') A' c' xs ∧ Below w.heap.size w w' := by
  have H := Lib.hid (h.on (below_alloc (Below.refl _ _) (.cells #[] 2))); clear h
  go_enter Try.func90, Try.ntmps90
  go_wp2_with (at_builtin; refine wpList_append_row flat_int elem_Int64 rfl _ _ rfl (base := w.heap.size) rfl (Row.empty (Nat.le_refl _)) rfl H.out (by simp only [List.length_nil]; unfold maxLen; omega) (by simp only [List.length_nil]; omega) (by simp) ?_)
  intro v' w1 hrow hgrow hat
  try rw [List.nil_append] at hrow
  obtain ⟨A', c', rfl, hso⟩ := hrow.so
  have HO := Lib.hid hso
  have HL : Hid (Below w.heap.size w w1) := ((Below.refl _ w).alloc (Nat.le_refl _) _).grown hgrow (by simp) (by intro k hk; simp [Value.ownBlock] at hk; omega)
  clear hrow hgrow hat hso
  go_wp2
  go_ret
  exact ⟨A', c', rfl, HO.out, HL.out⟩

set_option maxHeartbeats 400000 in
theorem Clone_Int64 (A : Option Addr) (c : Nat) (xs : List Int) (w : World) (h : Sl eInt w (Old w) A c xs) (hsm : xs.length ≤ 1000000000000) :
    Calls Try.prog 91 #[.slice A xs.length c] w fun e w' => ∃ A' c', e = .returned (.slice A' xs.length c') ∧ So eInt w' (Fr w w') A' c' xs ∧ Below w.heap.size w w' := by
  have q22 : ∀ (w : World) (a : Option Addr) (n c n' c' : Nat), (binOp .eql 31 (.slice a n c) (.slice none n' c')).run Try.prog w = .ok (.bool a.isNone) w := fun w a n c n' c' => Lib.run_eql_slice_nil w _ _ a n c n' c' Try.underlying31
  cases A with
  | none =>
    have hx : xs = [] := Classical.byContradiction fun hn => by
      obtain ⟨b, off, hA, _⟩ := h.2.2 hn
      cases hA
    subst hx
    clear h
    go_enter Try.func91, Try.ntmps91
    go_wp2
    go_ret
    exact ⟨none, 0, rfl, So.nil (Nat.zero_le _), Below.refl _ _⟩
  | some ad =>
    have H := Lib.hid (h.on (below_alloc (Below.refl _ _) (.cells #[] 2))); clear h
    go_enter Try.func91, Try.ntmps91
    go_wp2_with (at_builtin; refine wpList_append_row flat_int elem_Int64 rfl _ _ rfl (base := w.heap.size) rfl (Row.empty (Nat.le_refl _)) rfl H.out (by simp only [List.length_nil]; unfold maxLen; omega) (by simp only [List.length_nil]; omega) (by simp) ?_)
    intro v' w1 hrow hgrow hat
    try rw [List.nil_append] at hrow
    obtain ⟨A', c', rfl, hso⟩ := hrow.so
    have HO := Lib.hid hso
    have HL : Hid (Below w.heap.size w w1) := ((Below.refl _ w).alloc (Nat.le_refl _) _).grown hgrow (by simp) (by intro k hk; simp [Value.ownBlock] at hk; omega)
    clear hrow hgrow hat hso
    go_wp2
    go_ret
    exact ⟨A', c', rfl, HO.out, HL.out⟩

/-- Zeros struck off at the end. -/
def trimZ (xs : List Int) : List Int := (xs.reverse.dropWhile (· == 0)).reverse

theorem trimZ_zero (xs : List Int) (k : Nat) (h : k < xs.length) (h0 : xs[k] = 0) : trimZ (xs.take (k + 1)) = trimZ (xs.take k) := by
  unfold trimZ
  rw [List.take_succ_eq_append_getElem h, h0, List.reverse_append]; rfl

theorem trimZ_stop (xs : List Int) (k : Nat) (h : k < xs.length) (h0 : xs[k] ≠ 0) : trimZ (xs.take (k + 1)) = xs.take (k + 1) := by
  unfold trimZ
  rw [List.take_succ_eq_append_getElem h, List.reverse_append]
  show (List.dropWhile (· == 0) (xs[k] :: (xs.take k).reverse)).reverse = _
  rw [List.dropWhile_cons_of_neg (by simpa using h0)]; simp

theorem impl_trimmed (A : Option Addr) (c : Nat) (xs : List Int) (w : World) (h : Sl eInt w (Old w) A c xs) :
    Calls Try.prog 161 #[.slice A xs.length c] w fun e w' => e = .returned (.slice A (trimZ xs).length c) ∧ (∃ k, trimZ xs = xs.take k) ∧ w = w' := by
  have hlen := h.len
  have hcap := h.cap
  have hmax := h.2.1
  have H := Lib.hid h; clear h
  go_enter Try.func161, Try.ntmps161
  go_wp2
  go_loop [0] (fun s0 => ∃ k : Nat, k ≤ xs.length ∧ s0 = .slice A k c ∧ Hid (trimZ (xs.take k) = trimZ xs)) (fun s0 => match s0 with | .slice _ n _ => n | _ => 0)
  case atStart => exact ⟨xs.length, Nat.le_refl _, rfl, by show _ = _; rw [List.take_length]⟩
  case round =>
    obtain ⟨k, hk, rfl, HN⟩ := hrel
    rcases k with _ | k
    · have HF : Hid (trimZ xs = []) := by show _ = _; rw [← HN.out]; rfl
      go_wp2
      go_ret
      exact ⟨by rw [HF.out]; rfl, ⟨0, by rw [HF.out]; rfl⟩, rfl⟩
    · have hlt : k < xs.length := by omega
      obtain ⟨b, off, es, rfl, hb, ⟨rfl, _⟩, hc⟩ := H.out.at1 rfl hlt
      have d0 : w.cell? ⟨b, off + k, none⟩ = some (.int .i64 xs[k]) := hc _ rfl
      clear hc
      have HZ := Lib.hid (trimZ_zero xs k hlt)
      have HS := Lib.hid (trimZ_stop xs k hlt)
      generalize xs[k] = y at d0 HZ HS
      cases q : (y == 0)
      · have HF : Hid (trimZ xs = xs.take (k + 1)) := by show _ = _; rw [← HN.out, HS.out (by simpa using q)]
        go_wp2
        go_ret
        exact ⟨by rw [HF.out, List.length_take, show min (k + 1) xs.length = k + 1 from by omega]; rfl, ⟨k + 1, HF.out⟩, rfl⟩
      · go_wp2
        go_round
        case rel => exact ⟨k, by omega, by go_num, by show _ = _; rw [← HN.out, HZ.out (by simpa using q)]⟩
        case measure => simp

theorem spec_l02Trim (A : Option Addr) (c : Nat) (xs : List Int) (w : World) (h : Sl eInt w (Old w) A c xs) :
    Calls Try.prog 158 #[.slice A xs.length c] w fun e w' => e = .returned (.slice A (trimZ xs).length c) ∧ (∃ k, trimZ xs = xs.take k) ∧ w = w' := by
  have hlen := h.len
  have hcap := h.cap
  have hmax := h.2.1
  have H := Lib.hid h; clear h
  go_enter Try.func158, Try.ntmps158
  go_wp2
  go_loop [3] (fun s3 => ∃ k : Nat, k ≤ xs.length ∧ s3 = .int .i64 k ∧ Hid (trimZ (xs.take k) = trimZ xs)) (fun s3 => (intOf s3).toNat)
  case atStart => exact ⟨xs.length, Nat.le_refl _, rfl, by show _ = _; rw [List.take_length]⟩
  case round =>
    obtain ⟨k, hk, rfl, HN⟩ := hrel
    have hkc : (k : Int) ≤ (c : Int) := by omega
    rcases k with _ | k
    · have HF : Hid (trimZ xs = []) := by show _ = _; rw [← HN.out]; rfl
      go_wp2
      go_ret
      exact ⟨by rw [HF.out]; rfl, ⟨0, by rw [HF.out]; rfl⟩, rfl⟩
    · have hlt : k < xs.length := by omega
      have hltz : (k : Int) < (xs.length : Int) := by omega
      obtain ⟨b, off, es, rfl, hb, ⟨rfl, _⟩, hc⟩ := H.out.at1 rfl hlt
      have d0 : w.cell? ⟨b, off + k, none⟩ = some (.int .i64 xs[k]) := hc _ rfl
      clear hc
      have HZ := Lib.hid (trimZ_zero xs k hlt)
      have HS := Lib.hid (trimZ_stop xs k hlt)
      generalize xs[k] = y at d0 HZ HS
      cases q : (y == 0)
      · have HF : Hid (trimZ xs = xs.take (k + 1)) := by show _ = _; rw [← HN.out, HS.out (by simpa using q)]
        go_wp2
        go_ret
        exact ⟨by rw [HF.out, List.length_take, show min (k + 1) xs.length = k + 1 from by omega]; rfl, ⟨k + 1, HF.out⟩, rfl⟩
      · go_wp2
        go_round
        case rel => exact ⟨k, by omega, by go_num, by show _ = _; rw [← HN.out, HZ.out (by simpa using q)]⟩
        case measure => simp [intOf]

theorem trimZ_cons (a : Int) (ys : List Int) : trimZ (a :: ys) = if a = 0 ∧ trimZ ys = [] then [] else a :: trimZ ys := by
  unfold trimZ
  rw [List.reverse_cons, List.dropWhile_append]
  by_cases h : (ys.reverse.dropWhile (· == 0)).isEmpty
  · rw [if_pos h]
    rw [List.isEmpty_iff] at h
    by_cases ha : a = 0
    · rw [if_pos ⟨ha, by rw [h]; rfl⟩, ha]; rfl
    · rw [if_neg (fun hc => ha hc.1), List.dropWhile_cons_of_neg (by simpa using ha), h]; rfl
  · rw [if_neg h, if_neg (fun hc => h (by simpa using hc.2)), List.reverse_append]; rfl

theorem trimZ_len (xs : List Int) : (trimZ xs).length ≤ xs.length := by
  induction xs with
  | nil => simp [trimZ]
  | cons a ys ih => rw [trimZ_cons]; split <;> simp; omega

def outB (lo hi n : Int) : Bool := !withinB n lo hi

def allW (xs : List Int) (lo hi : Int) : Bool := !xs.any (outB lo hi)

theorem impl_allWithin (A : Option Addr) (c : Nat) (xs : List Int) (lo hi : Int) (w : World) (h : Sl eInt w (Old w) A c xs) :
    Calls Try.prog 88 #[.slice A xs.length c, .int .i64 lo, .int .i64 hi] w fun e w' => e = .returned (.bool (allW xs lo hi)) ∧ w = w' := by
  have hlen := h.len
  have H := Lib.hid h; clear h
  unfold allW
  go_enter Try.func88, Try.ntmps88
  go_wp2
  go_loop [8, 11] (fun _ i => ∃ k : Nat, k ≤ xs.length ∧ i = .int .i64 k ∧ Hid ((xs.take k).any (outB lo hi) = false)) (fun _ i => xs.length - (intOf i).toNat)
  case atStart => exact ⟨0, Nat.zero_le _, rfl, rfl⟩
  case round =>
    obtain ⟨k, hk, rfl, HN⟩ := hrel
    by_cases hlt : k < xs.length
    · have hltz : (k : Int) < (xs.length : Int) := by omega
      obtain ⟨b, off, es, rfl, hb, ⟨rfl, _⟩, hc⟩ := H.out.at1 rfl hlt
      have d0 : w.cell? ⟨b, off + k, none⟩ = some (.int .i64 xs[k]) := hc _ rfl
      clear hc
      have HT : Hid (outB lo hi xs[k] = true → xs.any (outB lo hi) = true) := fun e => any_hit hlt e
      have HS : Hid (outB lo hi xs[k] = false → (xs.take (k + 1)).any (outB lo hi) = false) := fun e => any_step hlt HN.out e
      generalize xs[k] = y at d0 HT HS
      cases q1 : withinB y lo hi
      · go_wp2_with (go_at_call 69; refine (impl_within _ _ _ _).mono ?_; rintro e w' ⟨rfl, rfl⟩; rw [q1])
        go_ret
        exact ⟨by rw [HT.out (by unfold outB; rw [q1]; rfl)]; rfl, rfl⟩
      · go_wp2_with (go_at_call 69; refine (impl_within _ _ _ _).mono ?_; rintro e w' ⟨rfl, rfl⟩; rw [q1])
        go_round
        case rel => exact ⟨k + 1, by omega, by go_num, HS.out (by unfold outB; rw [q1]; rfl)⟩
        case measure => simp [intOf]; omega
    · have hltz : ¬ (k : Int) < (xs.length : Int) := by omega
      obtain rfl : k = xs.length := by omega
      go_wp2
      go_ret
      have hn := HN.out
      rw [List.take_length] at hn
      exact ⟨ret_bool (by rw [hn]; rfl), rfl⟩

/-- Strictly rising. -/
def risB : List Int → Bool
  | x :: y :: l => decide (x < y) && risB (y :: l)
  | _ => true

theorem risB_get : ∀ (xs : List Int) (k : Nat) (h : k + 1 < xs.length), xs[k + 1] ≤ xs[k] → risB xs = false
  | x :: y :: l, 0, _, h => by rw [risB, decide_eq_false (show ¬ x < y from Int.not_lt.2 h)]; rfl
  | x :: y :: l, k + 1, hk, h => by rw [risB, risB_get (y :: l) k (Nat.lt_of_succ_lt_succ hk) h]; simp
  | [_], k, hk, _ => by simp at hk
  | [], k, hk, _ => by simp at hk

theorem risB_all : ∀ (xs : List Int), (∀ k (h : k + 1 < xs.length), xs[k] < xs[k + 1]) → risB xs = true
  | x :: y :: l, h => by
    have h0 : x < y := h 0 (by simp)
    have h1 : risB (y :: l) = true := risB_all (y :: l) fun k hk => h (k + 1) (Nat.succ_lt_succ hk)
    rw [risB, decide_eq_true h0, h1]; rfl
  | [_], _ => rfl
  | [], _ => rfl

set_option maxHeartbeats 400000 in
theorem impl_rising (A : Option Addr) (c : Nat) (xs : List Int) (w : World) (h : Sl eInt w (Old w) A c xs) :
    Calls Try.prog 102 #[.slice A xs.length c] w fun e w' => e = .returned (.bool (risB xs)) ∧ Below w.heap.size w w' := by
  have hlen := h.len
  have H := Lib.hid h; clear h
  go_enter Try.func102, Try.ntmps102
  go_wp2
  go_loopw [3] (fun s3 wr => ∃ k : Nat, k ≤ xs.length ∧ s3 = .int .i64 ((k : Int) + 1) ∧ Hid (∀ j (h : j + 1 < xs.length), j < k → xs[j] < xs[j + 1]) ∧ Hid (Below w.heap.size w wr)) (fun s3 _ => xs.length + 2 - (intOf s3).toNat)
  case atStart => exact ⟨0, Nat.zero_le _, rfl, fun j _ h => absurd h (Nat.not_lt_zero _), Below.refl _ w⟩
  case round =>
    obtain ⟨k, hk, rfl, HN, BW⟩ := hrel
    by_cases hlt : k + 1 < xs.length
    · have hltz : (k : Int) + 1 < (xs.length : Int) := by omega
      have hlt0 : k < xs.length := by omega
      have hltz0 : (k : Int) < (xs.length : Int) := by omega
      have hz0 : (0 : Int) ≤ (k : Int) := by omega
      have hz1 : (0 : Int) ≤ (k : Int) + 1 := by omega
      obtain ⟨b, off, es, rfl, hb, ⟨rfl, _⟩, hc⟩ := H.out.at1 rfl hlt0
      have d0 : wr.cell? ⟨b, off + k, none⟩ = some (.int .i64 xs[k]) := (below_olds BW.out _ hb).trans (hc _ rfl)
      clear hc hb
      obtain ⟨b', off', es', hA, hb, ⟨rfl, _⟩, hc⟩ := H.out.at1 rfl hlt
      simp only [Option.some.injEq, Addr.mk.injEq, and_true] at hA
      obtain ⟨rfl, rfl⟩ := hA
      have d1 : wr.cell? ⟨b, off + (k + 1), none⟩ = some (.int .i64 xs[k + 1]) := (below_olds BW.out _ hb).trans (hc _ rfl)
      clear hc hb
      have HT : Hid (xs[k + 1] ≤ xs[k] → risB xs = false) := risB_get xs k hlt
      have HS : Hid (xs[k] < xs[k + 1] → ∀ j (h : j + 1 < xs.length), j < k + 1 → xs[j] < xs[j + 1]) := fun e j h hj => by
        by_cases ej : j = k
        · subst ej; exact e
        · exact HN.out j h (by omega)
      generalize xs[k] = x at d0 HT HS
      generalize xs[k + 1] = y at d1 HT HS
      by_cases hq : y ≤ x
      · have HF := Lib.hid (HT.out hq)
        go_wp2_with fail
        go_quiet (fail)
        go_wp2
        go_ret
        exact ⟨ret_bool (by rw [HF.out]), below_drewN BW.out _⟩
      · have HF := Lib.hid (HS.out (Int.not_le.1 hq))
        have hq' : decide (y ≤ x) = false := decide_eq_false hq
        clear hq
        go_wp2_with fail
        go_quiet (fail)
        go_wp2
        go_roundw
        case rel => exact ⟨k + 1, by omega, by go_num, HF.out, below_drewN BW.out _⟩
        case measure => simp [intOf]; omega
    · have hltz : ¬ (k : Int) + 1 < (xs.length : Int) := by omega
      go_wp2
      go_ret
      exact ⟨ret_bool (risB_all xs fun j hj => HN.out j hj (by omega)).symm, BW.out⟩

theorem allW_mem {xs : List Int} {lo hi : Int} (h : allW xs lo hi = true) : ∀ x ∈ xs, lo ≤ x ∧ x ≤ hi := by
  intro x hx
  unfold allW outB at h
  simp at h
  exact withinB_true.1 (h x hx)

theorem allW_of {xs : List Int} {lo hi : Int} (h : ∀ x ∈ xs, lo ≤ x ∧ x ≤ hi) : allW xs lo hi = true := by
  unfold allW outB; simp; exact fun x hx => withinB_true.2 (h x hx)

/-- The value of limbs. -/
def val : List Int → Int
  | [] => 0
  | x :: xs => x + 1000000 * val xs

def limbs (xs : List Int) : Prop := ∀ x ∈ xs, 0 ≤ x ∧ x ≤ 999999

theorem val_lt : ∀ {xs : List Int}, limbs xs → 0 ≤ val xs ∧ val xs < 1000000 ^ xs.length
  | [], _ => by simp [val]
  | x :: xs, h => by
    have h1 := val_lt (xs := xs) fun y hy => h y (by simp [hy])
    have h2 := h x (by simp)
    rw [val, List.length_cons, Int.pow_succ]
    generalize (1000000 : Int) ^ xs.length = p at *
    omega

theorem pow_pos6 (n : Nat) : (0 : Int) < 1000000 ^ n := Int.pow_pos (by decide)

/-- The limbs of a number. -/
def digs (n : Nat) : List Int := if h : n = 0 then [] else ((n % 1000000 : Nat) : Int) :: digs (n / 1000000)
  termination_by n
  decreasing_by omega

theorem digs_zero : digs 0 = [] := by rw [digs]; simp

/-- The product of limbs. -/
def mulN (a b : List Int) : List Int := digs (val a * val b).toNat

theorem digs_limbs (n : Nat) : limbs (digs n) := by
  refine Nat.strongRecOn n fun n ih => ?_
  rw [digs]
  split
  · intro x hx; cases hx
  · intro x hx
    rcases List.mem_cons.1 hx with rfl | hx
    · omega
    · exact ih _ (by omega) x hx

theorem digs_len : ∀ (k n : Nat), n < 1000000 ^ k → (digs n).length ≤ k
  | 0, n, h => by
    have : n = 0 := by simpa using h
    subst this; simp [digs_zero]
  | k + 1, n, h => by
    rw [digs]
    split
    · simp
    · have := digs_len k (n / 1000000) (by rw [Nat.pow_succ] at h; exact Nat.div_lt_of_lt_mul (by omega))
      simp; omega

theorem mulN_len {a b : List Int} (ha : limbs a) (hb : limbs b) : (mulN a b).length ≤ a.length + b.length := by
  have h1 := val_lt ha
  have h2 := val_lt hb
  refine digs_len _ _ ?_
  have q1 := pow_pos6 a.length
  have q2 := pow_pos6 b.length
  have h3 : val a * val b ≤ val a * 1000000 ^ b.length := Int.mul_le_mul_of_nonneg_left (by omega) (by omega)
  have h4 : val a * 1000000 ^ b.length < 1000000 ^ a.length * 1000000 ^ b.length := Int.mul_lt_mul_of_pos_right (by omega) q2
  rw [← Int.pow_add] at h4
  have h5 : ((1000000 ^ (a.length + b.length) : Nat) : Int) = (1000000 : Int) ^ (a.length + b.length) := by simp
  have h6 : 0 ≤ val a * val b := Int.mul_nonneg h1.1 h2.1
  omega

theorem mulN_limbs (a b : List Int) : limbs (mulN a b) := digs_limbs _

/-- Division by a small number, from the top. -/
def divW (by_ : Int) : List Int → List Int × Int
  | [] => ([], 0)
  | x :: xs => (((divW by_ xs).2 * 1000000 + x) / by_ :: (divW by_ xs).1, ((divW by_ xs).2 * 1000000 + x) % by_)

theorem divW_len (d : Int) : ∀ xs, (divW d xs).1.length = xs.length
  | [] => rfl
  | x :: xs => by simp [divW, divW_len d xs]

theorem divW_rest {d : Int} (hd : 0 < d) : ∀ xs, 0 ≤ (divW d xs).2 ∧ (divW d xs).2 < d
  | [] => by simp [divW, hd]
  | x :: xs => by
    rw [divW]
    exact ⟨Int.emod_nonneg _ (by omega), Int.emod_lt_of_pos _ hd⟩

theorem divW_limbs {d : Int} (hd : 0 < d) : ∀ {xs : List Int}, limbs xs → limbs (divW d xs).1
  | [], _ => by intro x hx; cases hx
  | x :: xs, h => by
    have ih := divW_limbs hd (xs := xs) fun y hy => h y (by simp [hy])
    have hr := divW_rest hd xs
    have hx := h x (by simp)
    intro y hy
    rw [divW] at hy
    rcases List.mem_cons.1 hy with rfl | hy
    · generalize (divW d xs).2 = r at *
      constructor
      · exact Int.ediv_nonneg (by omega) (by omega)
      · have : (r * 1000000 + x) / d < 1000000 := Int.ediv_lt_of_lt_mul hd (by
          have h1 : r + 1 ≤ d := by omega
          have : (r + 1) * 1000000 ≤ d * 1000000 := Int.mul_le_mul_of_nonneg_right h1 (by omega)
          omega)
        omega
    · exact ih y hy

theorem divW_drop (d : Int) {xs : List Int} {k : Nat} (h : k < xs.length) : divW d (xs.drop k) = (((divW d (xs.drop (k + 1))).2 * 1000000 + xs[k]) / d :: (divW d (xs.drop (k + 1))).1, ((divW d (xs.drop (k + 1))).2 * 1000000 + xs[k]) % d) := by
  rw [List.drop_eq_getElem_cons h, divW]

def divN (a : List Int) (d : Int) : List Int × Int := (trimZ (divW d a).1, (divW d a).2)

theorem trimZ_mem {xs : List Int} {x : Int} (h : x ∈ trimZ xs) : x ∈ xs := by
  unfold trimZ at h
  have := (List.dropWhile_suffix (· == (0 : Int)) (l := xs.reverse)).subset (List.mem_reverse.1 h)
  simpa using this

theorem divN_len (a : List Int) (d : Int) : (divN a d).1.length ≤ a.length := by
  have := trimZ_len (divW d a).1
  rw [divW_len] at this; exact this

theorem divN_limbs {a : List Int} {d : Int} (hd : 0 < d) (h : limbs a) : limbs (divN a d).1 := fun x hx => divW_limbs hd h x (trimZ_mem hx)

theorem set_div {k : Nat} {x : Int} {l : List Int} : (List.replicate (k + 1) (0 : Int) ++ l).set k x = List.replicate k 0 ++ x :: l := by
  rw [List.replicate_succ', List.append_assoc, List.set_append_right _ _ (by simp)]
  simp

theorem div_bd6 {r x d : Int} (hd : 0 < d) (hr : 0 ≤ r ∧ r < d) (hx : 0 ≤ x ∧ x ≤ 999999) : (0 ≤ (r * 1000000 + x) / d ∧ (r * 1000000 + x) / d ≤ 999999) ∧ (0 ≤ (r * 1000000 + x) % d ∧ (r * 1000000 + x) % d < d) := by
  refine ⟨⟨Int.ediv_nonneg (by omega) (by omega), ?_⟩, Int.emod_nonneg _ (by omega), Int.emod_lt_of_pos _ hd⟩
  have : (r * 1000000 + x) / d < 1000000 := Int.ediv_lt_of_lt_mul hd (by
    have : (r + 1) * 1000000 ≤ d * 1000000 := Int.mul_le_mul_of_nonneg_right (by omega) (by omega)
    omega)
  omega

theorem set_divW {a : List Int} {d : Int} {k : Nat} (hk : 0 < k) (hl : k ≤ a.length) {x : Int} (hx : x = ((divW d (a.drop k)).2 * 1000000 + a[k - 1]) / d) : List.replicate (k - 1) (0 : Int) ++ (divW d (a.drop (k - 1))).1 = (List.replicate k 0 ++ (divW d (a.drop k)).1).set (k - 1) x := by
  obtain ⟨j, rfl⟩ : ∃ j, k = j + 1 := ⟨k - 1, by omega⟩
  simp only [Nat.add_sub_cancel] at hx ⊢
  rw [set_div, divW_drop d (by omega : j < a.length), hx]

theorem rest_divW {a : List Int} {d : Int} {k : Nat} (hk : 0 < k) (hl : k ≤ a.length) : (divW d (a.drop (k - 1))).2 = ((divW d (a.drop k)).2 * 1000000 + a[k - 1]) % d := by
  obtain ⟨j, rfl⟩ : ∃ j, k = j + 1 := ⟨k - 1, by omega⟩
  simp only [Nat.add_sub_cancel]
  rw [divW_drop d (by omega : j < a.length)]

def isNat (n : List Int) : Bool := decide ((n.length : Int) ≤ 40) && allW n 0 999999 && (((n.length : Int) == 0) || (n[n.length - 1]?.getD 0 != 0))

def isPos (n : List Int) : Bool := isNat n && decide (0 < (n.length : Int))

theorem isPos_facts {n : List Int} (h : isPos n = true) : limbs n ∧ n.length ≤ 40 ∧ 0 < n.length := by
  unfold isPos isNat at h
  simp only [Bool.and_eq_true, decide_eq_true_eq] at h
  exact ⟨allW_mem h.1.1.2, by omega, by omega⟩

set_option maxRecDepth 100000 in
set_option maxHeartbeats 4000000 in
theorem impl_IsNatural (A0 : Option Addr) (c0 : Nat) (a0 : (List Int)) (w : World) (h0 : Sl eInt w (Old w) A0 c0 a0) :
    Calls Try.prog 159 #[.slice A0 a0.length c0] w fun e w' => e = .returned (.bool (isNat a0)) ∧ w = w' := by
  have l0 := h0.len
  have HH1 := Held.start Nob w
  refine enter (n := 24) Try.func159 rfl rfl rfl fun a_2 HE3 => ?_
  refine wp_seq ?_
  refine rg ?_
  refine pl_x HE3 HH1 (wt0 rfl) (x_assign rfl) rfl rfl fun a_4 HE5 => ?_
  refine wpList_nil ?_
  clear a_2 HE3
  refine nrm ?_
  refine wp_seq ?_
  refine rg ?_
  refine pl_x HE5 HH1 (wt0 rfl) (x_move rfl) rfl rfl fun a_6 HE7 => ?_
  refine pl_x HE7 HH1 (wt0 rfl) (x_len Try.underlying31 rfl) rfl rfl fun a_8 HE9 => ?_
  refine pl_x HE9 HH1 (wt0 rfl) (x_leq rfl rfl) rfl rfl fun a_10 HE11 => ?_
  refine pl_x HE11 HH1 (wt0 rfl) (x_move rfl) rfl rfl fun a_12 HE13 => ?_
  by_cases hc21 : (a0.length : Int) ≤ 40
  · refine pl_x HE13 HH1 (wtT HE13 rfl rfl rfl (decide_eq_true hc21)) (x_move rfl) rfl rfl fun a_14 HE15 => ?_
    refine pl fun K_16 hK17 => ?_
    refine st_call HE15 (wtT HE15 rfl rfl rfl (decide_eq_true hc21)) rfl rfl rfl en_88 rfl rfl (impl_allWithin _ _ a0 0 999999 _ (HH1.old h0)) fun e w' hr => ?_
    obtain ⟨rfl, rfl⟩ := hr
    refine ⟨_, rfl, fun a_18 HE19 => hK17 _ _ ?_⟩
    refine pl_x HE19 HH1 (wt0 rfl) (x_pickT rfl (decide_eq_true hc21) rfl) rfl rfl fun a_20 HE21 => ?_
    refine pl_x HE21 HH1 (wt0 rfl) (x_move rfl) rfl rfl fun a_22 HE23 => ?_
    rcases Bool.eq_false_or_eq_true ((allW a0 0 999999)) with hc23 | hc23
    · refine pl_x HE23 HH1 (wtT HE23 rfl rfl rfl hc23) (x_move rfl) rfl rfl fun a_24 HE25 => ?_
      refine pl_x HE25 HH1 (wtT HE25 rfl rfl rfl hc23) (x_len Try.underlying31 rfl) rfl rfl fun a_26 HE27 => ?_
      refine pl_x HE27 HH1 (wtT HE27 rfl rfl rfl hc23) (x_eql rfl rfl) rfl rfl fun a_28 HE29 => ?_
      refine pl_x HE29 HH1 (wtT HE29 rfl rfl rfl hc23) (x_move rfl) rfl rfl fun a_30 HE31 => ?_
      by_cases hc24 : (a0.length : Int) = 0
      · refine pl_no HE31 (wtF HE31 rfl rfl rfl (beq_t hc24)) rfl rfl fun a_32 HE33 => ?_
        refine pl_no HE33 (wtF HE33 rfl rfl rfl (beq_t hc24)) rfl rfl fun a_34 HE35 => ?_
        refine pl_no HE35 (wtF HE35 rfl rfl rfl (beq_t hc24)) rfl rfl fun a_36 HE37 => ?_
        refine pl_no HE37 (wtF HE37 rfl rfl rfl (beq_t hc24)) rfl rfl fun a_38 HE39 => ?_
        refine pl_no HE39 (wtF HE39 rfl rfl rfl (beq_t hc24)) rfl rfl fun a_40 HE41 => ?_
        refine pl_no HE41 (wtF HE41 rfl rfl rfl (beq_t hc24)) rfl rfl fun a_42 HE43 => ?_
        refine pl_no HE43 (wtF HE43 rfl rfl rfl (beq_t hc24)) rfl rfl fun a_44 HE45 => ?_
        refine pl_x HE45 HH1 (wtT HE45 rfl rfl rfl hc23) (x_pickT rfl (beq_t hc24) rfl) rfl rfl fun a_46 HE47 => ?_
        refine pl_x HE47 HH1 (wt0 rfl) (x_pickT rfl hc23 rfl) rfl rfl fun a_48 HE49 => ?_
        refine pl_x HE49 HH1 (wt0 rfl) (x_assign rfl) rfl rfl fun a_50 HE51 => ?_
        refine wpList_nil ?_
        clear a_4 HE5 a_6 HE7 a_8 HE9 a_10 HE11 a_12 HE13 a_14 HE15 a_18 HE19 a_20 HE21 a_22 HE23 a_24 HE25 a_26 HE27 a_28 HE29 a_30 HE31 a_32 HE33 a_34 HE35 a_36 HE37 a_38 HE39 a_40 HE41 a_42 HE43 a_44 HE45 a_46 HE47 a_48 HE49 hK17 K_16
        refine nrm ?_
        refine wp_ret ?_
        refine ret1 HE51 rfl (rv_tmp rfl) ?_
        have hF : (isNat a0) = true := by
          first | rfl | (simp [isNat, hc21, hc23, hc24]; done) | (simp [isNat, hc21, hc23, hc24]; omega) | grind [isNat]
        exact ⟨by rw [hF] <;> rfl, rfl⟩
      · refine pl_x HE31 HH1 (wtT HE31 rfl rfl rfl (beq_f hc24)) (x_move rfl) rfl rfl fun a_52 HE53 => ?_
        refine pl_x HE53 HH1 (wtT HE53 rfl rfl rfl (beq_f hc24)) (x_move rfl) rfl rfl fun a_54 HE55 => ?_
        refine pl_x HE55 HH1 (wtT HE55 rfl rfl rfl (beq_f hc24)) (x_len Try.underlying31 rfl) rfl rfl fun a_56 HE57 => ?_
        refine pl_x HE57 HH1 (wtT HE57 rfl rfl rfl (beq_f hc24)) (x_sub rfl rfl (by exact ⟨by omega, by omega⟩)) rfl rfl fun a_58 HE59 => ?_
        have ke25 : (a0.length - 1) < a0.length := by omega
        obtain ⟨be25, fe25, ese25, Ae25, Re25, De25⟩ := el_old h0 ke25
        obtain ⟨e25, xe25⟩ : ∃ x, x = a0[(a0.length - 1)] := ⟨_, rfl⟩
        rw [← xe25] at Re25
        have Qe25 := Re25
        obtain ⟨rfl, ie25⟩ := Re25
        have je25 := ie25; unfold I64 at je25
        refine pl_x HE59 HH1 (wtT HE59 rfl rfl rfl (beq_f hc24)) (x_indexAddr ts_31 rfl rfl Ae25 (by omega) ke25) rfl rfl fun a_60 HE61 => ?_
        refine pl_x HE61 HH1 (wtT HE61 rfl rfl rfl (beq_f hc24)) (x_load1 tv_2 rfl (c_old (De25 0 _ rfl))) rfl rfl fun a_62 HE63 => ?_
        refine pl_x HE63 HH1 (wtT HE63 rfl rfl rfl (beq_f hc24)) (x_neq rfl rfl) rfl rfl fun a_64 HE65 => ?_
        refine pl_x HE65 HH1 (wtT HE65 rfl rfl rfl hc23) (x_pickF rfl (beq_f hc24) rfl) rfl rfl fun a_66 HE67 => ?_
        refine pl_x HE67 HH1 (wt0 rfl) (x_pickT rfl hc23 rfl) rfl rfl fun a_68 HE69 => ?_
        refine pl_x HE69 HH1 (wt0 rfl) (x_assign rfl) rfl rfl fun a_70 HE71 => ?_
        refine wpList_nil ?_
        clear a_4 HE5 a_6 HE7 a_8 HE9 a_10 HE11 a_12 HE13 a_14 HE15 a_18 HE19 a_20 HE21 a_22 HE23 a_24 HE25 a_26 HE27 a_28 HE29 a_30 HE31 a_52 HE53 a_54 HE55 a_56 HE57 a_58 HE59 a_60 HE61 a_62 HE63 a_64 HE65 a_66 HE67 a_68 HE69 hK17 K_16
        refine nrm ?_
        refine wp_ret ?_
        refine ret1 HE71 rfl (rv_tmp rfl) ?_
        have hF : (isNat a0) = (e25 != 0) := by
          first | rfl | (simp [isNat, hc21, hc23, hc24, xe25]; done) | (simp [isNat, hc21, hc23, hc24, xe25]; omega) | grind [isNat]
        exact ⟨by rw [hF] <;> rfl, rfl⟩
    · refine pl_no HE23 (wtF HE23 rfl rfl rfl hc23) rfl rfl fun a_72 HE73 => ?_
      refine pl_no HE73 (wtF HE73 rfl rfl rfl hc23) rfl rfl fun a_74 HE75 => ?_
      refine pl_no HE75 (wtF HE75 rfl rfl rfl hc23) rfl rfl fun a_76 HE77 => ?_
      refine pl_no HE77 (wtF HE77 rfl rfl rfl hc23) rfl rfl fun a_78 HE79 => ?_
      refine pl_no HE79 (wtU HE79 rfl rfl rfl) rfl rfl fun a_80 HE81 => ?_
      refine pl_no HE81 (wtU HE81 rfl rfl rfl) rfl rfl fun a_82 HE83 => ?_
      refine pl_no HE83 (wtU HE83 rfl rfl rfl) rfl rfl fun a_84 HE85 => ?_
      refine pl_no HE85 (wtU HE85 rfl rfl rfl) rfl rfl fun a_86 HE87 => ?_
      refine pl_no HE87 (wtU HE87 rfl rfl rfl) rfl rfl fun a_88 HE89 => ?_
      refine pl_no HE89 (wtU HE89 rfl rfl rfl) rfl rfl fun a_90 HE91 => ?_
      refine pl_no HE91 (wtU HE91 rfl rfl rfl) rfl rfl fun a_92 HE93 => ?_
      refine pl_no HE93 (wtF HE93 rfl rfl rfl hc23) rfl rfl fun a_94 HE95 => ?_
      refine pl_x HE95 HH1 (wt0 rfl) (x_pickF rfl hc23 rfl) rfl rfl fun a_96 HE97 => ?_
      refine pl_x HE97 HH1 (wt0 rfl) (x_assign rfl) rfl rfl fun a_98 HE99 => ?_
      refine wpList_nil ?_
      clear a_4 HE5 a_6 HE7 a_8 HE9 a_10 HE11 a_12 HE13 a_14 HE15 a_18 HE19 a_20 HE21 a_22 HE23 a_72 HE73 a_74 HE75 a_76 HE77 a_78 HE79 a_80 HE81 a_82 HE83 a_84 HE85 a_86 HE87 a_88 HE89 a_90 HE91 a_92 HE93 a_94 HE95 a_96 HE97 hK17 K_16
      refine nrm ?_
      refine wp_ret ?_
      refine ret1 HE99 rfl (rv_tmp rfl) ?_
      have hF : (isNat a0) = false := by
        first | rfl | (simp [isNat, hc21, hc23]; done) | (simp [isNat, hc21, hc23]; omega) | grind [isNat]
      exact ⟨by rw [hF] <;> rfl, rfl⟩
  · refine pl_no HE13 (wtF HE13 rfl rfl rfl (decide_eq_false hc21)) rfl rfl fun a_100 HE101 => ?_
    refine pl_no HE101 (wtF HE101 rfl rfl rfl (decide_eq_false hc21)) rfl rfl fun a_102 HE103 => ?_
    refine pl_x HE103 HH1 (wt0 rfl) (x_pickF rfl (decide_eq_false hc21) rfl) rfl rfl fun a_104 HE105 => ?_
    refine pl_x HE105 HH1 (wt0 rfl) (x_move rfl) rfl rfl fun a_106 HE107 => ?_
    refine pl_no HE107 (wtF HE107 rfl rfl rfl rfl) rfl rfl fun a_108 HE109 => ?_
    refine pl_no HE109 (wtF HE109 rfl rfl rfl rfl) rfl rfl fun a_110 HE111 => ?_
    refine pl_no HE111 (wtF HE111 rfl rfl rfl rfl) rfl rfl fun a_112 HE113 => ?_
    refine pl_no HE113 (wtF HE113 rfl rfl rfl rfl) rfl rfl fun a_114 HE115 => ?_
    refine pl_no HE115 (wtU HE115 rfl rfl rfl) rfl rfl fun a_116 HE117 => ?_
    refine pl_no HE117 (wtU HE117 rfl rfl rfl) rfl rfl fun a_118 HE119 => ?_
    refine pl_no HE119 (wtU HE119 rfl rfl rfl) rfl rfl fun a_120 HE121 => ?_
    refine pl_no HE121 (wtU HE121 rfl rfl rfl) rfl rfl fun a_122 HE123 => ?_
    refine pl_no HE123 (wtU HE123 rfl rfl rfl) rfl rfl fun a_124 HE125 => ?_
    refine pl_no HE125 (wtU HE125 rfl rfl rfl) rfl rfl fun a_126 HE127 => ?_
    refine pl_no HE127 (wtU HE127 rfl rfl rfl) rfl rfl fun a_128 HE129 => ?_
    refine pl_no HE129 (wtF HE129 rfl rfl rfl rfl) rfl rfl fun a_130 HE131 => ?_
    refine pl_x HE131 HH1 (wt0 rfl) (x_pickF rfl rfl rfl) rfl rfl fun a_132 HE133 => ?_
    refine pl_x HE133 HH1 (wt0 rfl) (x_assign rfl) rfl rfl fun a_134 HE135 => ?_
    refine wpList_nil ?_
    clear a_4 HE5 a_6 HE7 a_8 HE9 a_10 HE11 a_12 HE13 a_100 HE101 a_102 HE103 a_104 HE105 a_106 HE107 a_108 HE109 a_110 HE111 a_112 HE113 a_114 HE115 a_116 HE117 a_118 HE119 a_120 HE121 a_122 HE123 a_124 HE125 a_126 HE127 a_128 HE129 a_130 HE131 a_132 HE133
    refine nrm ?_
    refine wp_ret ?_
    refine ret1 HE135 rfl (rv_tmp rfl) ?_
    have hF : (isNat a0) = false := by
      first | rfl | (simp [isNat, hc21]; done) | (simp [isNat, hc21]; omega) | grind [isNat]
    exact ⟨by rw [hF] <;> rfl, rfl⟩

set_option maxRecDepth 100000 in
set_option maxHeartbeats 4000000 in
theorem impl_isPositive (A0 : Option Addr) (c0 : Nat) (a0 : (List Int)) (w : World) (h0 : Sl eInt w (Old w) A0 c0 a0) :
    Calls Try.prog 101 #[.slice A0 a0.length c0] w fun e w' => e = .returned (.bool (isPos a0)) ∧ w = w' := by
  have l0 := h0.len
  have HH1 := Held.start Nob w
  refine enter (n := 10) Try.func101 rfl rfl rfl fun a_2 HE3 => ?_
  refine wp_seq ?_
  refine rg ?_
  refine pl_x HE3 HH1 (wt0 rfl) (x_assign rfl) rfl rfl fun a_4 HE5 => ?_
  refine wpList_nil ?_
  clear a_2 HE3
  refine nrm ?_
  refine wp_seq ?_
  refine rg ?_
  refine pl_x HE5 HH1 (wt0 rfl) (x_move rfl) rfl rfl fun a_6 HE7 => ?_
  refine pl fun K_8 hK9 => ?_
  refine st_call HE7 (wt0 rfl) rfl rfl rfl en_159 rfl rfl (impl_IsNatural _ _ a0 _ (HH1.old h0)) fun e w' hr => ?_
  obtain ⟨rfl, rfl⟩ := hr
  refine ⟨_, rfl, fun a_10 HE11 => hK9 _ _ ?_⟩
  refine pl_x HE11 HH1 (wt0 rfl) (x_move rfl) rfl rfl fun a_12 HE13 => ?_
  rcases Bool.eq_false_or_eq_true ((isNat a0)) with hc22 | hc22
  · refine pl_x HE13 HH1 (wtT HE13 rfl rfl rfl hc22) (x_move rfl) rfl rfl fun a_14 HE15 => ?_
    refine pl_x HE15 HH1 (wtT HE15 rfl rfl rfl hc22) (x_len Try.underlying31 rfl) rfl rfl fun a_16 HE17 => ?_
    refine pl_x HE17 HH1 (wtT HE17 rfl rfl rfl hc22) (x_gtr rfl rfl) rfl rfl fun a_18 HE19 => ?_
    refine pl_x HE19 HH1 (wt0 rfl) (x_pickT rfl hc22 rfl) rfl rfl fun a_20 HE21 => ?_
    refine pl_x HE21 HH1 (wt0 rfl) (x_assign rfl) rfl rfl fun a_22 HE23 => ?_
    refine wpList_nil ?_
    clear a_4 HE5 a_6 HE7 a_10 HE11 a_12 HE13 a_14 HE15 a_16 HE17 a_18 HE19 a_20 HE21 hK9 K_8
    refine nrm ?_
    refine wp_ret ?_
    refine ret1 HE23 rfl (rv_tmp rfl) ?_
    have hF : (isPos a0) = decide (0 < (a0.length : Int)) := by
      first | rfl | (simp [isPos, hc22]; done) | (simp [isPos, hc22]; omega) | grind [isPos]
    exact ⟨by rw [hF] <;> rfl, rfl⟩
  · refine pl_no HE13 (wtF HE13 rfl rfl rfl hc22) rfl rfl fun a_24 HE25 => ?_
    refine pl_no HE25 (wtF HE25 rfl rfl rfl hc22) rfl rfl fun a_26 HE27 => ?_
    refine pl_no HE27 (wtF HE27 rfl rfl rfl hc22) rfl rfl fun a_28 HE29 => ?_
    refine pl_x HE29 HH1 (wt0 rfl) (x_pickF rfl hc22 rfl) rfl rfl fun a_30 HE31 => ?_
    refine pl_x HE31 HH1 (wt0 rfl) (x_assign rfl) rfl rfl fun a_32 HE33 => ?_
    refine wpList_nil ?_
    clear a_4 HE5 a_6 HE7 a_10 HE11 a_12 HE13 a_24 HE25 a_26 HE27 a_28 HE29 a_30 HE31 hK9 K_8
    refine nrm ?_
    refine wp_ret ?_
    refine ret1 HE33 rfl (rv_tmp rfl) ?_
    have hF : (isPos a0) = false := by
      first | rfl | (simp [isPos, hc22]; done) | (simp [isPos, hc22]; omega) | grind [isPos]
    exact ⟨by rw [hF] <;> rfl, rfl⟩

set_option maxRecDepth 100000 in
set_option maxHeartbeats 4000000 in
theorem spec_l02Is (A0 : Option Addr) (c0 : Nat) (a0 : (List Int)) (w : World) (h0 : Sl eInt w (Old w) A0 c0 a0) :
    Calls Try.prog 157 #[.slice A0 a0.length c0] w fun e w' => e = .returned (.bool (isNat a0)) ∧ Below w.heap.size w w' := by
  have l0 := h0.len
  have HH1 := Held.start Nob w
  refine enter (n := 31) Try.func157 rfl rfl rfl fun a_2 HE3 => ?_
  refine wp_seq ?_
  refine rg ?_
  refine pl_x HE3 HH1 (wt0 rfl) (x_assign rfl) rfl rfl fun a_4 HE5 => ?_
  refine wpList_nil ?_
  clear a_2 HE3
  refine nrm ?_
  refine wp_seq ?_
  refine wp_seq ?_
  refine rg ?_
  refine pl_x HE5 HH1 (wt0 rfl) (x_move rfl) rfl rfl fun a_6 HE7 => ?_
  refine pl_x HE7 HH1 (wt0 rfl) (x_len Try.underlying31 rfl) rfl rfl fun a_8 HE9 => ?_
  refine pl_x HE9 HH1 (wt0 rfl) (x_gtr rfl rfl) rfl rfl fun a_10 HE11 => ?_
  refine wpList_nil ?_
  clear a_4 HE5 a_6 HE7 a_8 HE9
  refine nrm ?_
  refine cnd_d HE11 rfl (fun hc21 => ?_) (fun hc21 => ?_)
  · refine wp_seq ?_
    refine rg ?_
    refine pl_x HE11 HH1 (wt0 rfl) (x_assign rfl) rfl rfl fun a_12 HE13 => ?_
    refine wpList_nil ?_
    clear a_10 HE11
    refine nrm ?_
    refine wp_ret ?_
    refine (thn_ret ?_)
    refine ret1 HE13 rfl (rv_tmp rfl) ?_
    have hF : (isNat a0) = false := by
      first | (simp [isNat, hc21]; done) | (unfold isNat; rw [decide_eq_false (by omega)]; rfl) | (unfold isNat allW; rw [any_hit (by omega : k < a0.length) (by rw [← xe0]; simp_all [outB])]; simp) | (have hq := p0_1; rw [List.take_of_length_le (by omega)] at hq; unfold isNat allW; rw [hq]; grind)
    exact ⟨by rw [hF] <;> rfl, HH1.below⟩
  · refine wp_skip ?_
    refine nrm ?_
    refine wp_seq ?_
    refine wp_seq ?_
    refine rg ?_
    refine pl_x HE11 HH1 (wt0 rfl) (x_assign rfl) rfl rfl fun a_14 HE15 => ?_
    refine wpList_nil ?_
    clear a_10 HE11
    refine nrm ?_
    refine wp_block ?_
    refine lp (fun m a w' => ∃ (k : Nat), m = a0.length - k ∧ Env 31 [(3, .int .i64 (k : Int)), (0, .slice A0 (a0.length) c0)] a ∧ Held Nob w [] w' ∧ (k ≤ a0.length) ∧ ((a0.take k).any (outB 0 999999) = false)) (a0.length - (0)) ?_ ?_
    · exact ⟨0, rfl, HE15.sub ⟨(lkI rfl (by first | rfl | omega | (simp [hc21]; done))), rfl, trivial⟩, (HH1.sel [] (by decide) rfl), (by first | omega | assumption | (simp; done) | simp_all), (by rfl)⟩
    · rintro m a_16 w' ⟨k, rfl, HE17, HH18, p22_0, p22_1⟩
      refine wp_seq ?_
      refine wp_seq ?_
      refine rg ?_
      refine pl_x HE17 HH18 (wt0 rfl) (x_move rfl) rfl rfl fun a_19 HE20 => ?_
      refine pl_x HE20 HH18 (wt0 rfl) (x_move rfl) rfl rfl fun a_21 HE22 => ?_
      refine pl_x HE22 HH18 (wt0 rfl) (x_len Try.underlying31 rfl) rfl rfl fun a_23 HE24 => ?_
      refine pl_x HE24 HH18 (wt0 rfl) (x_lss rfl rfl) rfl rfl fun a_25 HE26 => ?_
      refine wpList_nil ?_
      clear a_14 HE15 HH1 a_16 HE17 a_19 HE20 a_21 HE22 a_23 HE24
      refine nrm ?_
      refine cnd_d HE26 rfl (fun hc23 => ?_) (fun hc23 => ?_)
      · refine wp_skip ?_
        refine nrm ?_
        refine wp_seq ?_
        refine wp_block ?_
        refine wp_seq ?_
        refine rg ?_
        refine pl_x HE26 HH18 (wt0 rfl) (x_move rfl) rfl rfl fun a_27 HE28 => ?_
        refine pl_x HE28 HH18 (wt0 rfl) (x_move rfl) rfl rfl fun a_29 HE30 => ?_
        have ke24 : k < a0.length := by omega
        obtain ⟨be24, fe24, ese24, Ae24, Re24, De24⟩ := el_old h0 ke24
        obtain ⟨e24, xe24⟩ : ∃ x, x = a0[k] := ⟨_, rfl⟩
        rw [← xe24] at Re24
        have Qe24 := Re24
        obtain ⟨rfl, ie24⟩ := Re24
        have je24 := ie24; unfold I64 at je24
        refine pl_x HE30 HH18 (wt0 rfl) (x_indexAddr ts_31 rfl rfl Ae24 rfl ke24) rfl rfl fun a_31 HE32 => ?_
        refine pl_x HE32 HH18 (wt0 rfl) (x_load1 tv_2 rfl (c_old (De24 0 _ rfl))) rfl rfl fun a_33 HE34 => ?_
        refine pl fun K_35 hK36 => ?_
        refine st_call HE34 (wt0 rfl) rfl rfl rfl en_67 rfl rfl (spec_l00In e24 0 999999 _ ) fun e w' hr => ?_
        obtain ⟨rfl, rfl⟩ := hr
        refine ⟨_, rfl, fun a_37 HE38 => hK36 _ _ ?_⟩
        refine pl_x HE38 HH18 (wt0 rfl) (x_not rfl) rfl rfl fun a_39 HE40 => ?_
        refine wpList_nil ?_
        clear a_25 HE26 a_27 HE28 a_29 HE30 a_31 HE32 a_33 HE34 a_37 HE38 hK36 K_35
        refine nrm ?_
        refine cnd_nb HE40 rfl (fun hc26 => ?_) (fun hc26 => ?_)
        · refine wp_seq ?_
          refine rg ?_
          refine pl_x HE40 HH18 (wt0 rfl) (x_assign rfl) rfl rfl fun a_41 HE42 => ?_
          refine wpList_nil ?_
          clear a_39 HE40
          refine nrm ?_
          refine wp_ret ?_
          refine (blk_ret (thn_ret (thn_ret (blk_ret (thn_ret ?_)))))
          refine ret1 HE42 rfl (rv_tmp rfl) ?_
          have hF : (isNat a0) = false := by
            first | (simp [isNat, hc21, p22_0, p22_1, hc23, xe24, hc26]; done) | (unfold isNat; rw [decide_eq_false (by omega)]; rfl) | (unfold isNat allW; rw [any_hit (by omega : k < a0.length) (by rw [← xe24]; simp_all [outB])]; simp) | (have hq := p22_1; rw [List.take_of_length_le (by omega)] at hq; unfold isNat allW; rw [hq]; grind)
          exact ⟨by rw [hF] <;> rfl, HH18.below⟩
        · refine wp_skip ?_
          refine blk_n ?_
          refine nrm ?_
          refine rg ?_
          refine pl_x HE40 HH18 (wt0 rfl) (x_move rfl) rfl rfl fun a_43 HE44 => ?_
          refine pl_x HE44 HH18 (wt0 rfl) (x_add rfl rfl (by exact ⟨by omega, by omega⟩)) rfl rfl fun a_45 HE46 => ?_
          refine pl_x HE46 HH18 (wt0 rfl) (x_assign rfl) rfl rfl fun a_47 HE48 => ?_
          refine wpList_nil ?_
          clear a_39 HE40 a_43 HE44 a_45 HE46
          exact nrm ⟨a0.length - (k + 1), (by omega), k + 1, rfl, HE48.sub ⟨(lkI rfl (by first | rfl | omega | (simp [hc21, p22_0, p22_1, hc23, xe24, hc26]; done))), rfl, trivial⟩, (HH18.sel [] (by decide) rfl), (by first | omega | assumption | (simp; done) | simp_all), (by exact any_step (by omega) p22_1 (by rw [← xe24]; simp_all [outB]))⟩
      · refine wp_exit ?_
        refine (thn_exit (thn_exit (blk_hit ?_)))
        refine nrm ?_
        refine wp_seq ?_
        refine rg ?_
        refine pl_x HE26 HH18 (wt0 rfl) (x_move rfl) rfl rfl fun a_49 HE50 => ?_
        refine pl_x HE50 HH18 (wt0 rfl) (x_len Try.underlying31 rfl) rfl rfl fun a_51 HE52 => ?_
        refine pl_x HE52 HH18 (wt0 rfl) (x_eql rfl rfl) rfl rfl fun a_53 HE54 => ?_
        refine pl_x HE54 HH18 (wt0 rfl) (x_move rfl) rfl rfl fun a_55 HE56 => ?_
        by_cases hc27 : (a0.length : Int) = 0
        · refine pl_no HE56 (wtF HE56 rfl rfl rfl (beq_t hc27)) rfl rfl fun a_57 HE58 => ?_
          refine pl_no HE58 (wtF HE58 rfl rfl rfl (beq_t hc27)) rfl rfl fun a_59 HE60 => ?_
          refine pl_no HE60 (wtF HE60 rfl rfl rfl (beq_t hc27)) rfl rfl fun a_61 HE62 => ?_
          refine pl_no HE62 (wtF HE62 rfl rfl rfl (beq_t hc27)) rfl rfl fun a_63 HE64 => ?_
          refine pl_no HE64 (wtF HE64 rfl rfl rfl (beq_t hc27)) rfl rfl fun a_65 HE66 => ?_
          refine pl_no HE66 (wtF HE66 rfl rfl rfl (beq_t hc27)) rfl rfl fun a_67 HE68 => ?_
          refine pl_no HE68 (wtF HE68 rfl rfl rfl (beq_t hc27)) rfl rfl fun a_69 HE70 => ?_
          refine pl_x HE70 HH18 (wt0 rfl) (x_pickT rfl (beq_t hc27) rfl) rfl rfl fun a_71 HE72 => ?_
          refine pl_x HE72 HH18 (wt0 rfl) (x_assign rfl) rfl rfl fun a_73 HE74 => ?_
          refine wpList_nil ?_
          clear a_25 HE26 a_49 HE50 a_51 HE52 a_53 HE54 a_55 HE56 a_57 HE58 a_59 HE60 a_61 HE62 a_63 HE64 a_65 HE66 a_67 HE68 a_69 HE70 a_71 HE72
          refine nrm ?_
          refine wp_ret ?_
          refine ret1 HE74 rfl (rv_tmp rfl) ?_
          have hF : (isNat a0) = true := by
            first | (simp [isNat, hc21, p22_0, p22_1, hc23, hc27]; done) | (unfold isNat; rw [decide_eq_false (by omega)]; rfl) | (unfold isNat allW; rw [any_hit (by omega : k < a0.length) (by rw [← xe0]; simp_all [outB])]; simp) | (have hq := p22_1; rw [List.take_of_length_le (by omega)] at hq; unfold isNat allW; rw [hq]; grind)
          exact ⟨by rw [hF] <;> rfl, HH18.below⟩
        · refine pl_x HE56 HH18 (wtT HE56 rfl rfl rfl (beq_f hc27)) (x_move rfl) rfl rfl fun a_75 HE76 => ?_
          refine pl_x HE76 HH18 (wtT HE76 rfl rfl rfl (beq_f hc27)) (x_move rfl) rfl rfl fun a_77 HE78 => ?_
          refine pl_x HE78 HH18 (wtT HE78 rfl rfl rfl (beq_f hc27)) (x_len Try.underlying31 rfl) rfl rfl fun a_79 HE80 => ?_
          refine pl_x HE80 HH18 (wtT HE80 rfl rfl rfl (beq_f hc27)) (x_sub rfl rfl (by exact ⟨by omega, by omega⟩)) rfl rfl fun a_81 HE82 => ?_
          have ke28 : (a0.length - 1) < a0.length := by omega
          obtain ⟨be28, fe28, ese28, Ae28, Re28, De28⟩ := el_old h0 ke28
          obtain ⟨e28, xe28⟩ : ∃ x, x = a0[(a0.length - 1)] := ⟨_, rfl⟩
          rw [← xe28] at Re28
          have Qe28 := Re28
          obtain ⟨rfl, ie28⟩ := Re28
          have je28 := ie28; unfold I64 at je28
          refine pl_x HE82 HH18 (wtT HE82 rfl rfl rfl (beq_f hc27)) (x_indexAddr ts_31 rfl rfl Ae28 (by omega) ke28) rfl rfl fun a_83 HE84 => ?_
          refine pl_x HE84 HH18 (wtT HE84 rfl rfl rfl (beq_f hc27)) (x_load1 tv_2 rfl (c_old (De28 0 _ rfl))) rfl rfl fun a_85 HE86 => ?_
          refine pl_x HE86 HH18 (wtT HE86 rfl rfl rfl (beq_f hc27)) (x_neq rfl rfl) rfl rfl fun a_87 HE88 => ?_
          refine pl_x HE88 HH18 (wt0 rfl) (x_pickF rfl (beq_f hc27) rfl) rfl rfl fun a_89 HE90 => ?_
          refine pl_x HE90 HH18 (wt0 rfl) (x_assign rfl) rfl rfl fun a_91 HE92 => ?_
          refine wpList_nil ?_
          clear a_25 HE26 a_49 HE50 a_51 HE52 a_53 HE54 a_55 HE56 a_75 HE76 a_77 HE78 a_79 HE80 a_81 HE82 a_83 HE84 a_85 HE86 a_87 HE88 a_89 HE90
          refine nrm ?_
          refine wp_ret ?_
          refine ret1 HE92 rfl (rv_tmp rfl) ?_
          have hF : (isNat a0) = (e28 != 0) := by
            first | (simp [isNat, hc21, p22_0, p22_1, hc23, hc27, xe28]; done) | (unfold isNat; rw [decide_eq_false (by omega)]; rfl) | (unfold isNat allW; rw [any_hit (by omega : k < a0.length) (by rw [← xe28]; simp_all [outB])]; simp) | (have hq := p22_1; rw [List.take_of_length_le (by omega)] at hq; unfold isNat allW; rw [hq]; grind)
          exact ⟨by rw [hF] <;> rfl, HH18.below⟩

set_option maxRecDepth 100000 in
set_option maxHeartbeats 4000000 in
theorem spec_l08Number (A0 : Option Addr) (c0 : Nat) (a0 : (List Int)) (w : World) (h0 : Sl eInt w (Old w) A0 c0 a0) :
    Calls Try.prog 96 #[.slice A0 a0.length c0] w fun e w' => e = .returned (.bool (isPos a0)) ∧ Below w.heap.size w w' := by
  have l0 := h0.len
  have HH1 := Held.start Nob w
  refine enter (n := 10) Try.func96 rfl rfl rfl fun a_2 HE3 => ?_
  refine wp_seq ?_
  refine rg ?_
  refine pl_x HE3 HH1 (wt0 rfl) (x_assign rfl) rfl rfl fun a_4 HE5 => ?_
  refine wpList_nil ?_
  clear a_2 HE3
  refine nrm ?_
  refine wp_seq ?_
  refine rg ?_
  refine pl_x HE5 HH1 (wt0 rfl) (x_move rfl) rfl rfl fun a_6 HE7 => ?_
  refine pl fun K_8 hK9 => ?_
  refine st_call HE7 (wt0 rfl) rfl rfl rfl en_157 rfl rfl (spec_l02Is _ _ a0 _ (HH1.old h0)) fun e w' hr => ?_
  obtain ⟨rfl, hbr21⟩ := hr
  have HH10 := HH1.on hbr21
  refine ⟨_, rfl, fun a_11 HE12 => hK9 _ _ ?_⟩
  refine pl_x HE12 HH10 (wt0 rfl) (x_move rfl) rfl rfl fun a_13 HE14 => ?_
  rcases Bool.eq_false_or_eq_true ((isNat a0)) with hc22 | hc22
  · refine pl_x HE14 HH10 (wtT HE14 rfl rfl rfl hc22) (x_move rfl) rfl rfl fun a_15 HE16 => ?_
    refine pl_x HE16 HH10 (wtT HE16 rfl rfl rfl hc22) (x_len Try.underlying31 rfl) rfl rfl fun a_17 HE18 => ?_
    refine pl_x HE18 HH10 (wtT HE18 rfl rfl rfl hc22) (x_gtr rfl rfl) rfl rfl fun a_19 HE20 => ?_
    refine pl_x HE20 HH10 (wt0 rfl) (x_pickT rfl hc22 rfl) rfl rfl fun a_21 HE22 => ?_
    refine pl_x HE22 HH10 (wt0 rfl) (x_assign rfl) rfl rfl fun a_23 HE24 => ?_
    refine wpList_nil ?_
    clear a_4 HE5 HH1 a_6 HE7 a_11 HE12 a_13 HE14 a_15 HE16 a_17 HE18 a_19 HE20 a_21 HE22 hK9 K_8
    refine nrm ?_
    refine wp_ret ?_
    refine ret1 HE24 rfl (rv_tmp rfl) ?_
    have hF : (isPos a0) = decide (0 < (a0.length : Int)) := by
      first | rfl | (simp [isPos, hc22]; done) | (simp [isPos, hc22]; omega) | grind [isPos]
    exact ⟨by rw [hF] <;> rfl, HH10.below⟩
  · refine pl_no HE14 (wtF HE14 rfl rfl rfl hc22) rfl rfl fun a_25 HE26 => ?_
    refine pl_no HE26 (wtF HE26 rfl rfl rfl hc22) rfl rfl fun a_27 HE28 => ?_
    refine pl_no HE28 (wtF HE28 rfl rfl rfl hc22) rfl rfl fun a_29 HE30 => ?_
    refine pl_x HE30 HH10 (wt0 rfl) (x_pickF rfl hc22 rfl) rfl rfl fun a_31 HE32 => ?_
    refine pl_x HE32 HH10 (wt0 rfl) (x_assign rfl) rfl rfl fun a_33 HE34 => ?_
    refine wpList_nil ?_
    clear a_4 HE5 HH1 a_6 HE7 a_11 HE12 a_13 HE14 a_25 HE26 a_27 HE28 a_29 HE30 a_31 HE32 hK9 K_8
    refine nrm ?_
    refine wp_ret ?_
    refine ret1 HE34 rfl (rv_tmp rfl) ?_
    have hF : (isPos a0) = false := by
      first | rfl | (simp [isPos, hc22]; done) | (simp [isPos, hc22]; omega) | grind [isPos]
    exact ⟨by rw [hF] <;> rfl, HH10.below⟩

set_option maxRecDepth 100000 in
set_option maxHeartbeats 4000000 in
theorem impl_divideSmall (A0 : Option Addr) (c0 : Nat) (a0 : (List Int)) (a1 : Int) (w : World) (h0 : Sl eInt w (Old w) A0 c0 a0) (s0 : limbs a0) (s1 : 1 ≤ a1 ∧ a1 ≤ 999999) (s2 : a0.length ≤ 1000000000) :
    Calls Try.prog 107 #[.slice A0 a0.length c0, .int .i64 a1] w fun e w' => ∃ (A0' : Option Addr) (c0' : Nat), e = .returned (.tuple #[.slice A0' (divN a0 a1).1.length c0', .int .i64 (divN a0 a1).2]) ∧ So eInt w' (Fr w w') A0' c0' (divN a0 a1).1 ∧ Below w.heap.size w w' := by
  have l0 := h0.len
  have HH1 := Held.start Nob w
  refine enter (n := 38) Try.func107 rfl rfl rfl fun a_2 HE3 => ?_
  refine wp_seq ?_
  refine rg ?_
  refine pl_x HE3 HH1 (wt0 rfl) (x_assign rfl) rfl rfl fun a_4 HE5 => ?_
  refine pl_x HE5 HH1 (wt0 rfl) (x_assign rfl) rfl rfl fun a_6 HE7 => ?_
  refine wpList_nil ?_
  clear a_2 HE3 a_4 HE5
  refine nrm ?_
  refine wp_seq ?_
  refine rg ?_
  refine pl_x HE7 HH1 (wt0 rfl) (x_move rfl) rfl rfl fun a_8 HE9 => ?_
  refine pl_x HE9 HH1 (wt0 rfl) (x_len Try.underlying31 rfl) rfl rfl fun a_10 HE11 => ?_
  refine pl fun K_12 hK13 => ?_
  refine st_make (E := eInt) (x := (0 : Int)) (k := a0.length) HE11 HH1 ts_31 tv_2 rfl (fun _ => oI ⟨by omega, by omega⟩) rfl rfl rfl rfl (by omega) (by omega) (wt0 rfl) rfl fun q21 a_14 w' HE15 HH16 => hK13 _ _ ?_
  have hlq21 : (List.replicate a0.length (0 : Int)).length = a0.length := List.length_replicate
  refine pl_x HE15 HH16 (wt0 rfl) (x_assign rfl) rfl rfl fun a_17 HE18 => ?_
  refine pl_x HE18 HH16 (wt0 rfl) (x_assign rfl) rfl rfl fun a_19 HE20 => ?_
  refine wpList_nil ?_
  clear a_6 HE7 a_8 HE9 a_10 HE11 HH1 a_14 HE15 a_17 HE18 hK13 K_12
  refine nrm ?_
  refine wp_seq ?_
  refine wp_seq ?_
  refine rg ?_
  refine pl_x HE20 HH16 (wt0 rfl) (x_move rfl) rfl rfl fun a_21 HE22 => ?_
  refine pl_x HE22 HH16 (wt0 rfl) (x_len Try.underlying31 rfl) rfl rfl fun a_23 HE24 => ?_
  refine pl_x HE24 HH16 (wt0 rfl) (x_sub rfl rfl (by exact ⟨by omega, by omega⟩)) rfl rfl fun a_25 HE26 => ?_
  refine pl_x HE26 HH16 (wt0 rfl) (x_assign rfl) rfl rfl fun a_27 HE28 => ?_
  refine wpList_nil ?_
  clear a_19 HE20 a_21 HE22 a_23 HE24 a_25 HE26
  refine nrm ?_
  refine wp_block ?_
  refine lp (fun m a w' => ∃ (k : Nat), m = 0 + k ∧ Env 38 [(7, .int .i64 (divW a1 (a0.drop k)).2), (8, .int .i64 ((k : Int) - 1)), (0, .slice A0 (a0.length) c0), (1, .int .i64 (a1)), (6, .slice (some ⟨q21, 0, none⟩) ((List.replicate a0.length (0 : Int)).length) a0.length)] a ∧ Held Nob w [rSo eInt (fun b => b = q21) (some ⟨q21, 0, none⟩) a0.length (List.replicate k (0 : Int) ++ (divW a1 (a0.drop k)).1)] w' ∧ (k ≤ a0.length)) (0 + (a0.length)) ?_ ?_
  · have E22 : List.replicate (a0.length) (0 : Int) ++ (divW a1 (a0.drop (a0.length))).1 = (List.replicate a0.length (0 : Int)) := by
      rw [List.drop_length]; simp [divW]
    exact ⟨a0.length, rfl, HE28.sub ⟨(lkI rfl (by rw [List.drop_length]; rfl)), rfl, rfl, rfl, rfl, trivial⟩, ((HH16.sel [0] (by decide) rfl).to (by first | rfl | (rw [E22]; done) | (rw [E22]; rfl) | (simp only [E22]; done) | (simp only [E22]; rfl))), (by first | omega | assumption | (simp; done) | simp_all)⟩
  · rintro m a_29 w' ⟨k, rfl, HE30, HH31, p23_0⟩
    have dr := divW_rest (by omega : 0 < a1) (a0.drop k)
    have dl := divW_len a1 (a0.drop k)
    have dm : (List.replicate k (0 : Int) ++ (divW a1 (a0.drop k)).1).length = a0.length := by rw [List.length_append, dl, List.length_replicate, List.length_drop]; omega
    refine wp_seq ?_
    refine wp_seq ?_
    refine rg ?_
    refine pl_x HE30 HH31 (wt0 rfl) (x_move rfl) rfl rfl fun a_32 HE33 => ?_
    refine pl_x HE33 HH31 (wt0 rfl) (x_geq rfl rfl) rfl rfl fun a_34 HE35 => ?_
    refine wpList_nil ?_
    clear a_27 HE28 HH16 a_29 HE30 a_32 HE33
    refine nrm ?_
    refine cnd_d HE35 rfl (fun hc24 => ?_) (fun hc24 => ?_)
    · refine wp_skip ?_
      refine nrm ?_
      refine wp_seq ?_
      refine wp_block ?_
      refine wp_seq ?_
      refine rg ?_
      refine pl_x HE35 HH31 (wt0 rfl) (x_move rfl) rfl rfl fun a_36 HE37 => ?_
      refine pl_x HE37 HH31 (wt0 rfl) (x_mul rfl rfl (by exact ⟨by omega, by omega⟩)) rfl rfl fun a_38 HE39 => ?_
      refine pl_x HE39 HH31 (wt0 rfl) (x_move rfl) rfl rfl fun a_40 HE41 => ?_
      refine pl_x HE41 HH31 (wt0 rfl) (x_move rfl) rfl rfl fun a_42 HE43 => ?_
      have ke25 : (k - 1) < a0.length := by omega
      obtain ⟨be25, fe25, ese25, Ae25, Re25, De25⟩ := el_old h0 ke25
      obtain ⟨e25, xe25⟩ : ∃ x, x = a0[(k - 1)] := ⟨_, rfl⟩
      rw [← xe25] at Re25
      have Qe25 := Re25
      obtain ⟨rfl, ie25⟩ := Re25
      have je25 := ie25; unfold I64 at je25
      have be25 := s0 e25 (by rw [xe25]; exact List.getElem_mem _)
      have de25 := div_bd6 (x := e25) (by omega : 0 < a1) dr be25
      refine pl_x HE43 HH31 (wt0 rfl) (x_indexAddr ts_31 rfl rfl Ae25 (by omega) ke25) rfl rfl fun a_44 HE45 => ?_
      refine pl_x HE45 HH31 (wt0 rfl) (x_load1 tv_2 rfl (c_old (De25 0 _ rfl))) rfl rfl fun a_46 HE47 => ?_
      refine pl_x HE47 HH31 (wt0 rfl) (x_add rfl rfl (by exact ⟨by omega, by omega⟩)) rfl rfl fun a_48 HE49 => ?_
      refine pl_x HE49 HH31 (wt0 rfl) (x_assign rfl) rfl rfl fun a_50 HE51 => ?_
      refine wpList_nil ?_
      clear a_34 HE35 a_36 HE37 a_38 HE39 a_40 HE41 a_42 HE43 a_44 HE45 a_46 HE47 a_48 HE49
      refine nrm ?_
      refine dr_start (Held Nob w []) 11 #[false, false, false, false, false, false, false, false, false, false, false] hmix rfl rfl HH31 (fun _ h => h.sel [] (by decide) rfl) fun w' HH52 => ?_
      have HS53 := HH52.sel [] (by decide) rfl
      refine dr_take (i := 0) (ls' := #[true, false, false, false, false, false, false, false, false, false, false]) HE51 HS53 rfl (by kernel_rfl) (by kernel_rfl) (by kernel_rfl) (fun _ _ _ h => h) rfl (wt0 rfl) (x_move rfl) rfl rfl fun a_54 HE55 => ?_
      refine dr_take (i := 1) (ls' := #[true, true, false, false, false, false, false, false, false, false, false]) HE55 HS53 rfl (by kernel_rfl) (by kernel_rfl) (by kernel_rfl) (fun _ _ _ h => h) rfl (wt0 rfl) (x_move rfl) rfl rfl fun a_56 HE57 => ?_
      refine dr_take (i := 2) (ls' := #[true, true, true, false, false, false, false, false, false, false, false]) HE57 HS53 rfl (by kernel_rfl) (by kernel_rfl) (by kernel_rfl) (fun _ _ _ h => h) rfl (wt0 rfl) (x_move rfl) rfl rfl fun a_58 HE59 => ?_
      refine dr_take (i := 3) (ls' := #[true, true, true, true, false, false, false, false, false, false, false]) HE59 HS53 rfl (by kernel_rfl) (by kernel_rfl) (by kernel_rfl) (fun _ _ _ h => h) rfl (wt0 rfl) (x_move rfl) rfl rfl fun a_60 HE61 => ?_
      refine dr_take (i := 4) (ls' := #[true, true, true, true, true, false, false, false, false, false, false]) HE61 HS53 rfl (by kernel_rfl) (by kernel_rfl) (by kernel_rfl) (fun _ _ _ h => h) rfl (wt0 rfl) (x_quo rfl rfl (by omega) (by omega) (by omega)) rfl rfl fun a_62 HE63 => ?_
      refine dr_take (i := 5) (ls' := #[true, true, true, true, true, true, false, false, false, false, false]) HE63 HS53 rfl (by kernel_rfl) (by kernel_rfl) (by kernel_rfl) (fun _ _ _ h => h) rfl (wt0 rfl) (x_move rfl) rfl rfl fun a_64 HE65 => ?_
      refine dr_take (i := 6) (ls' := #[true, true, true, true, true, true, true, false, false, false, false]) HE65 HS53 rfl (by kernel_rfl) (by kernel_rfl) (by kernel_rfl) (fun _ _ _ h => h) rfl (wt0 rfl) (x_move rfl) rfl rfl fun a_66 HE67 => ?_
      refine dr_take (i := 7) (ls' := #[true, true, true, true, true, true, true, true, false, false, false]) HE67 HS53 rfl (by kernel_rfl) (by kernel_rfl) (by kernel_rfl) (fun _ _ _ h => h) rfl (wt0 rfl) (x_rem rfl rfl (by omega) (by omega)) rfl rfl fun a_68 HE69 => ?_
      have ke26 : (k - 1) < (List.replicate a0.length (0 : Int)).length := by omega
      refine dr_take (i := 8) (ls' := #[true, true, true, true, true, true, true, true, true, false, false]) HE69 HS53 rfl (by kernel_rfl) (by kernel_rfl) (by kernel_rfl) (fun _ _ _ h => h) rfl (wt0 rfl) (x_indexAddr ts_31 rfl rfl rfl (by omega) ke26) rfl rfl fun a_70 HE71 => ?_
      refine dr_one (i := 9) (ls' := #[true, true, true, true, true, true, true, true, true, true, false]) rfl (by kernel_rfl) rfl fun K_72 hK73 => ?_
      refine st_storeI 0 HE71 HH52 tv_2 rfl rfl rfl (by first | exact ke26 | (simp only [List.length_set]; exact ke26) | omega | (simp only [List.length_set]; omega) | (simp; omega)) (by exact ⟨by omega, by omega⟩) (wt0 rfl) fun w' HH74 => hK73 _ _ (by exact HH74.sel [] (by decide) rfl) ?_
      have HS75 := HH74.sel [] (by decide) rfl
      refine dr_take (i := 10) (ls' := #[true, true, true, true, true, true, true, true, true, true, true]) HE71 HS75 rfl (by kernel_rfl) (by kernel_rfl) (by kernel_rfl) (fun _ _ _ h => h) rfl (wt0 rfl) (x_assign rfl) rfl rfl fun a_76 HE77 => ?_
      refine dr_done (by kernel_rfl) ?_
      clear HH31 a_50 HE51 a_54 HE55 a_56 HE57 a_58 HE59 a_60 HE61 a_62 HE63 a_64 HE65 a_66 HE67 a_68 HE69 HH52 HS53 a_70 HE71 hK73 K_72
      refine blk_n ?_
      refine nrm ?_
      refine rg ?_
      refine pl_x HE77 HH74 (wt0 rfl) (x_move rfl) rfl rfl fun a_78 HE79 => ?_
      refine pl_x HE79 HH74 (wt0 rfl) (x_sub rfl rfl (by exact ⟨by omega, by omega⟩)) rfl rfl fun a_80 HE81 => ?_
      refine pl_x HE81 HH74 (wt0 rfl) (x_assign rfl) rfl rfl fun a_82 HE83 => ?_
      refine wpList_nil ?_
      clear a_76 HE77 a_78 HE79 a_80 HE81
      have E27 : List.replicate ((k - 1)) (0 : Int) ++ (divW a1 (a0.drop ((k - 1)))).1 = ((List.replicate k (0 : Int) ++ (divW a1 (a0.drop k)).1).set (k - 1) (((((divW a1 (a0.drop k)).2) * 1000000) + e25) / a1)) := by
        exact set_divW (by omega) (by omega) (by rw [← xe25])
      exact nrm ⟨0 + ((k - 1)), (by omega), (k - 1), rfl, HE83.sub ⟨(lkI rfl (by first | (rw [rest_divW (by omega) (by omega), ← xe25]; done) | (rw [rest_divW (by omega) (by omega), ← xe25]; rfl))), (lkI rfl (by omega)), rfl, rfl, rfl, trivial⟩, ((HH74.sel [0] (by decide) rfl).to (by first | rfl | (rw [E27]; done) | (rw [E27]; rfl) | (simp only [E27]; done) | (simp only [E27]; rfl))), (by first | omega | assumption | (simp; done) | simp_all)⟩
    · refine wp_exit ?_
      refine (thn_exit (thn_exit (blk_hit ?_)))
      refine nrm ?_
      refine wp_seq ?_
      refine rg ?_
      refine pl_x HE35 HH31 (wt0 rfl) (x_move rfl) rfl rfl fun a_84 HE85 => ?_
      refine pl fun K_86 hK87 => ?_
      have HE88 := HE85.castS (t := 35) (m' := List.length (List.replicate k (0 : Int) ++ (divW a1 (a0.drop k)).1)) rfl (by first | omega | (simp; done) | (simp; omega))
      refine st_call HE88 (wt0 rfl) rfl rfl rfl en_161 rfl rfl (impl_trimmed _ _ (List.replicate k (0 : Int) ++ (divW a1 (a0.drop k)).1) _ (HH31.sl (i := 0) rfl)) fun e w' hr => ?_
      obtain ⟨rfl, ⟨kt28, ht28⟩, rfl⟩ := hr
      have HH89 := HH31.turn (rSo eInt (fun b => b = q21) (some ⟨q21, 0, none⟩) a0.length (trimZ (List.replicate k (0 : Int) ++ (divW a1 (a0.drop k)).1))) (fun h => oSl (by rw [ht28]; exact (so_of_o h).take kt28)) (fun _ h => h)
      refine ⟨_, rfl, fun a_90 HE91 => hK87 _ _ ?_⟩
      refine pl_x HE91 HH89 (wt0 rfl) (x_move rfl) rfl rfl fun a_92 HE93 => ?_
      refine pl_x HE93 HH89 (wt0 rfl) (x_assign rfl) rfl rfl fun a_94 HE95 => ?_
      refine pl_x HE95 HH89 (wt0 rfl) (x_assign rfl) rfl rfl fun a_96 HE97 => ?_
      refine wpList_nil ?_
      clear a_34 HE35 HE85 HH31 a_84 HE88 a_90 HE91 a_92 HE93 a_94 HE95 hK87 K_86
      refine nrm ?_
      refine wp_ret ?_
      refine ret2 HE97 rfl (rv_tmp rfl) (rv_tmp rfl) ?_
      have hF : (divN a0 a1) = ((trimZ (List.replicate k (0 : Int) ++ (divW a1 (a0.drop k)).1)), (divW a1 (a0.drop k)).2) := by
        unfold divN; rw [show k = 0 from by omega]; simp
      exact ⟨(some ⟨q21, 0, none⟩), a0.length, by rw [hF] <;> rfl, by rw [hF]; exact (HH89.so (i := 0) rfl), HH89.below⟩

set_option maxRecDepth 100000 in
set_option maxHeartbeats 4000000 in
theorem spec_l02By (A0 : Option Addr) (c0 : Nat) (a0 : (List Int)) (a1 : Int) (w : World) (h0 : Sl eInt w (Old w) A0 c0 a0) (s0 : limbs a0) (s1 : 1 ≤ a1 ∧ a1 ≤ 999999) (s2 : a0.length ≤ 1000000000) :
    Calls Try.prog 100 #[.slice A0 a0.length c0, .int .i64 a1] w fun e w' => ∃ (A0' : Option Addr) (c0' : Nat), e = .returned (.tuple #[.slice A0' (divN a0 a1).1.length c0', .int .i64 (divN a0 a1).2]) ∧ So eInt w' (Fr w w') A0' c0' (divN a0 a1).1 ∧ Below w.heap.size w w' := by
  have l0 := h0.len
  have HH1 := Held.start Nob w
  refine enter (n := 38) Try.func100 rfl rfl rfl fun a_2 HE3 => ?_
  refine wp_seq ?_
  refine rg ?_
  refine pl_x HE3 HH1 (wt0 rfl) (x_assign rfl) rfl rfl fun a_4 HE5 => ?_
  refine pl_x HE5 HH1 (wt0 rfl) (x_assign rfl) rfl rfl fun a_6 HE7 => ?_
  refine wpList_nil ?_
  clear a_2 HE3 a_4 HE5
  refine nrm ?_
  refine wp_seq ?_
  refine rg ?_
  refine pl_x HE7 HH1 (wt0 rfl) (x_move rfl) rfl rfl fun a_8 HE9 => ?_
  refine pl_x HE9 HH1 (wt0 rfl) (x_len Try.underlying31 rfl) rfl rfl fun a_10 HE11 => ?_
  refine pl fun K_12 hK13 => ?_
  refine st_make (E := eInt) (x := (0 : Int)) (k := a0.length) HE11 HH1 ts_31 tv_2 rfl (fun _ => oI ⟨by omega, by omega⟩) rfl rfl rfl rfl (by omega) (by omega) (wt0 rfl) rfl fun q21 a_14 w' HE15 HH16 => hK13 _ _ ?_
  have hlq21 : (List.replicate a0.length (0 : Int)).length = a0.length := List.length_replicate
  refine pl_x HE15 HH16 (wt0 rfl) (x_assign rfl) rfl rfl fun a_17 HE18 => ?_
  refine wpList_nil ?_
  clear a_6 HE7 a_8 HE9 a_10 HE11 HH1 a_14 HE15 hK13 K_12
  refine nrm ?_
  refine wp_seq ?_
  refine rg ?_
  refine pl_x HE18 HH16 (wt0 rfl) (x_assign rfl) rfl rfl fun a_19 HE20 => ?_
  refine wpList_nil ?_
  clear a_17 HE18
  refine nrm ?_
  refine wp_seq ?_
  refine wp_seq ?_
  refine rg ?_
  refine pl_x HE20 HH16 (wt0 rfl) (x_move rfl) rfl rfl fun a_21 HE22 => ?_
  refine pl_x HE22 HH16 (wt0 rfl) (x_len Try.underlying31 rfl) rfl rfl fun a_23 HE24 => ?_
  refine pl_x HE24 HH16 (wt0 rfl) (x_sub rfl rfl (by exact ⟨by omega, by omega⟩)) rfl rfl fun a_25 HE26 => ?_
  refine pl_x HE26 HH16 (wt0 rfl) (x_assign rfl) rfl rfl fun a_27 HE28 => ?_
  refine wpList_nil ?_
  clear a_19 HE20 a_21 HE22 a_23 HE24 a_25 HE26
  refine nrm ?_
  refine wp_block ?_
  refine lp (fun m a w' => ∃ (k : Nat), m = 0 + k ∧ Env 38 [(7, .int .i64 (divW a1 (a0.drop k)).2), (8, .int .i64 ((k : Int) - 1)), (0, .slice A0 (a0.length) c0), (1, .int .i64 (a1)), (6, .slice (some ⟨q21, 0, none⟩) ((List.replicate a0.length (0 : Int)).length) a0.length)] a ∧ Held Nob w [rSo eInt (fun b => b = q21) (some ⟨q21, 0, none⟩) a0.length (List.replicate k (0 : Int) ++ (divW a1 (a0.drop k)).1)] w' ∧ (k ≤ a0.length)) (0 + (a0.length)) ?_ ?_
  · have E22 : List.replicate (a0.length) (0 : Int) ++ (divW a1 (a0.drop (a0.length))).1 = (List.replicate a0.length (0 : Int)) := by
      rw [List.drop_length]; simp [divW]
    exact ⟨a0.length, rfl, HE28.sub ⟨(lkI rfl (by rw [List.drop_length]; rfl)), rfl, rfl, rfl, rfl, trivial⟩, ((HH16.sel [0] (by decide) rfl).to (by first | rfl | (rw [E22]; done) | (rw [E22]; rfl) | (simp only [E22]; done) | (simp only [E22]; rfl))), (by first | omega | assumption | (simp; done) | simp_all)⟩
  · rintro m a_29 w' ⟨k, rfl, HE30, HH31, p23_0⟩
    have dr := divW_rest (by omega : 0 < a1) (a0.drop k)
    have dl := divW_len a1 (a0.drop k)
    have dm : (List.replicate k (0 : Int) ++ (divW a1 (a0.drop k)).1).length = a0.length := by rw [List.length_append, dl, List.length_replicate, List.length_drop]; omega
    refine wp_seq ?_
    refine wp_seq ?_
    refine rg ?_
    refine pl_x HE30 HH31 (wt0 rfl) (x_move rfl) rfl rfl fun a_32 HE33 => ?_
    refine pl_x HE33 HH31 (wt0 rfl) (x_geq rfl rfl) rfl rfl fun a_34 HE35 => ?_
    refine wpList_nil ?_
    clear a_27 HE28 HH16 a_29 HE30 a_32 HE33
    refine nrm ?_
    refine cnd_d HE35 rfl (fun hc24 => ?_) (fun hc24 => ?_)
    · refine wp_skip ?_
      refine nrm ?_
      refine wp_seq ?_
      refine wp_block ?_
      refine wp_seq ?_
      refine rg ?_
      refine pl_x HE35 HH31 (wt0 rfl) (x_move rfl) rfl rfl fun a_36 HE37 => ?_
      refine pl_x HE37 HH31 (wt0 rfl) (x_mul rfl rfl (by exact ⟨by omega, by omega⟩)) rfl rfl fun a_38 HE39 => ?_
      refine pl_x HE39 HH31 (wt0 rfl) (x_move rfl) rfl rfl fun a_40 HE41 => ?_
      refine pl_x HE41 HH31 (wt0 rfl) (x_move rfl) rfl rfl fun a_42 HE43 => ?_
      have ke25 : (k - 1) < a0.length := by omega
      obtain ⟨be25, fe25, ese25, Ae25, Re25, De25⟩ := el_old h0 ke25
      obtain ⟨e25, xe25⟩ : ∃ x, x = a0[(k - 1)] := ⟨_, rfl⟩
      rw [← xe25] at Re25
      have Qe25 := Re25
      obtain ⟨rfl, ie25⟩ := Re25
      have je25 := ie25; unfold I64 at je25
      have be25 := s0 e25 (by rw [xe25]; exact List.getElem_mem _)
      have de25 := div_bd6 (x := e25) (by omega : 0 < a1) dr be25
      refine pl_x HE43 HH31 (wt0 rfl) (x_indexAddr ts_31 rfl rfl Ae25 (by omega) ke25) rfl rfl fun a_44 HE45 => ?_
      refine pl_x HE45 HH31 (wt0 rfl) (x_load1 tv_2 rfl (c_old (De25 0 _ rfl))) rfl rfl fun a_46 HE47 => ?_
      refine pl_x HE47 HH31 (wt0 rfl) (x_add rfl rfl (by exact ⟨by omega, by omega⟩)) rfl rfl fun a_48 HE49 => ?_
      refine pl_x HE49 HH31 (wt0 rfl) (x_assign rfl) rfl rfl fun a_50 HE51 => ?_
      refine wpList_nil ?_
      clear a_34 HE35 a_36 HE37 a_38 HE39 a_40 HE41 a_42 HE43 a_44 HE45 a_46 HE47 a_48 HE49
      refine nrm ?_
      refine wp_seq ?_
      refine rg ?_
      refine pl_x HE51 HH31 (wt0 rfl) (x_move rfl) rfl rfl fun a_52 HE53 => ?_
      refine pl_x HE53 HH31 (wt0 rfl) (x_move rfl) rfl rfl fun a_54 HE55 => ?_
      refine pl_x HE55 HH31 (wt0 rfl) (x_move rfl) rfl rfl fun a_56 HE57 => ?_
      refine pl_x HE57 HH31 (wt0 rfl) (x_move rfl) rfl rfl fun a_58 HE59 => ?_
      refine pl_x HE59 HH31 (wt0 rfl) (x_quo rfl rfl (by omega) (by omega) (by omega)) rfl rfl fun a_60 HE61 => ?_
      have ke26 : (k - 1) < (List.replicate a0.length (0 : Int)).length := by omega
      refine pl_x HE61 HH31 (wt0 rfl) (x_indexAddr ts_31 rfl rfl rfl (by omega) ke26) rfl rfl fun a_62 HE63 => ?_
      refine pl fun K_64 hK65 => ?_
      refine st_storeI 0 HE63 HH31 tv_2 rfl rfl rfl (by first | exact ke26 | (simp only [List.length_set]; exact ke26) | omega | (simp only [List.length_set]; omega) | (simp; omega)) (by exact ⟨by omega, by omega⟩) (wt0 rfl) fun w' HH66 => hK65 _ _ ?_
      refine wpList_nil ?_
      clear a_50 HE51 a_52 HE53 a_54 HE55 a_56 HE57 a_58 HE59 a_60 HE61 HH31 hK65 K_64
      refine nrm ?_
      refine rg ?_
      refine pl_x HE63 HH66 (wt0 rfl) (x_move rfl) rfl rfl fun a_67 HE68 => ?_
      refine pl_x HE68 HH66 (wt0 rfl) (x_move rfl) rfl rfl fun a_69 HE70 => ?_
      refine pl_x HE70 HH66 (wt0 rfl) (x_rem rfl rfl (by omega) (by omega)) rfl rfl fun a_71 HE72 => ?_
      refine pl_x HE72 HH66 (wt0 rfl) (x_assign rfl) rfl rfl fun a_73 HE74 => ?_
      refine wpList_nil ?_
      clear a_62 HE63 a_67 HE68 a_69 HE70 a_71 HE72
      refine blk_n ?_
      refine nrm ?_
      refine rg ?_
      refine pl_x HE74 HH66 (wt0 rfl) (x_move rfl) rfl rfl fun a_75 HE76 => ?_
      refine pl_x HE76 HH66 (wt0 rfl) (x_sub rfl rfl (by exact ⟨by omega, by omega⟩)) rfl rfl fun a_77 HE78 => ?_
      refine pl_x HE78 HH66 (wt0 rfl) (x_assign rfl) rfl rfl fun a_79 HE80 => ?_
      refine wpList_nil ?_
      clear a_73 HE74 a_75 HE76 a_77 HE78
      have E27 : List.replicate ((k - 1)) (0 : Int) ++ (divW a1 (a0.drop ((k - 1)))).1 = ((List.replicate k (0 : Int) ++ (divW a1 (a0.drop k)).1).set (k - 1) (((((divW a1 (a0.drop k)).2) * 1000000) + e25) / a1)) := by
        exact set_divW (by omega) (by omega) (by rw [← xe25])
      exact nrm ⟨0 + ((k - 1)), (by omega), (k - 1), rfl, HE80.sub ⟨(lkI rfl (by first | (rw [rest_divW (by omega) (by omega), ← xe25]; done) | (rw [rest_divW (by omega) (by omega), ← xe25]; rfl))), (lkI rfl (by omega)), rfl, rfl, rfl, trivial⟩, ((HH66.sel [0] (by decide) rfl).to (by first | rfl | (rw [E27]; done) | (rw [E27]; rfl) | (simp only [E27]; done) | (simp only [E27]; rfl))), (by first | omega | assumption | (simp; done) | simp_all)⟩
    · refine wp_exit ?_
      refine (thn_exit (thn_exit (blk_hit ?_)))
      refine nrm ?_
      refine wp_seq ?_
      refine rg ?_
      refine pl_x HE35 HH31 (wt0 rfl) (x_move rfl) rfl rfl fun a_81 HE82 => ?_
      refine pl fun K_83 hK84 => ?_
      have HE85 := HE82.castS (t := 35) (m' := List.length (List.replicate k (0 : Int) ++ (divW a1 (a0.drop k)).1)) rfl (by first | omega | (simp; done) | (simp; omega))
      refine st_call HE85 (wt0 rfl) rfl rfl rfl en_158 rfl rfl (spec_l02Trim _ _ (List.replicate k (0 : Int) ++ (divW a1 (a0.drop k)).1) _ (HH31.sl (i := 0) rfl)) fun e w' hr => ?_
      obtain ⟨rfl, ⟨kt28, ht28⟩, rfl⟩ := hr
      have HH86 := HH31.turn (rSo eInt (fun b => b = q21) (some ⟨q21, 0, none⟩) a0.length (trimZ (List.replicate k (0 : Int) ++ (divW a1 (a0.drop k)).1))) (fun h => oSl (by rw [ht28]; exact (so_of_o h).take kt28)) (fun _ h => h)
      refine ⟨_, rfl, fun a_87 HE88 => hK84 _ _ ?_⟩
      refine pl_x HE88 HH86 (wt0 rfl) (x_move rfl) rfl rfl fun a_89 HE90 => ?_
      refine pl_x HE90 HH86 (wt0 rfl) (x_assign rfl) rfl rfl fun a_91 HE92 => ?_
      refine pl_x HE92 HH86 (wt0 rfl) (x_assign rfl) rfl rfl fun a_93 HE94 => ?_
      refine wpList_nil ?_
      clear a_34 HE35 HE82 HH31 a_81 HE85 a_87 HE88 a_89 HE90 a_91 HE92 hK84 K_83
      refine nrm ?_
      refine wp_ret ?_
      refine ret2 HE94 rfl (rv_tmp rfl) (rv_tmp rfl) ?_
      have hF : (divN a0 a1) = ((trimZ (List.replicate k (0 : Int) ++ (divW a1 (a0.drop k)).1)), (divW a1 (a0.drop k)).2) := by
        unfold divN; rw [show k = 0 from by omega]; simp
      exact ⟨(some ⟨q21, 0, none⟩), a0.length, by rw [hF] <;> rfl, by rw [hF]; exact (HH86.so (i := 0) rfl), HH86.below⟩

theorem rg_step {p : Nat → Bool} {k : Nat} (h : (List.range k).any p = false) (hk : p k = false) : (List.range (k + 1)).any p = false := by
  rw [List.range_succ, List.any_append, h]; simp [hk]

theorem rg_hit {p : Nat → Bool} {k n : Nat} (hk : k < n) (h : p k = true) : (List.range n).any p = true :=
  List.any_eq_true.2 ⟨k, List.mem_range.2 hk, h⟩

theorem outB_eq (lo hi x : Int) : outB lo hi x = !withinB x lo hi := by
  unfold outB withinB; grind

theorem trimZ_last : ∀ xs : List Int, trimZ xs = [] ∨ (trimZ xs)[(trimZ xs).length - 1]?.getD 0 ≠ 0
  | [] => .inl rfl
  | x :: xs => by
    rw [trimZ_cons]
    split
    · exact .inl rfl
    · rename_i h
      right
      rcases trimZ_last xs with h1 | h1
      · rw [h1]
        simp
        intro h2
        exact h ⟨h2, h1⟩
      · cases hq : trimZ xs with
        | nil => rw [hq] at h1; simp at h1
        | cons y ys => rw [hq] at h1; simpa using h1

theorem val_divW {d : Int} (hd : 0 < d) : ∀ xs : List Int, val (divW d xs).1 * d + (divW d xs).2 = val xs
  | [] => by simp [divW, val]
  | x :: xs => by
    have ih := val_divW hd xs
    rw [divW, val, val, ← ih]
    have h1 := Int.emod_def ((divW d xs).2 * 1000000 + x) d
    simp only
    generalize val (divW d xs).1 = q at *
    generalize (divW d xs).2 = r at *
    generalize (r * 1000000 + x) / d = u at *
    generalize (r * 1000000 + x) % d = v at *
    grind

theorem val_trimZ : ∀ xs : List Int, val (trimZ xs) = val xs
  | [] => rfl
  | x :: xs => by
    have ih := val_trimZ xs
    rw [trimZ_cons]
    split
    · rename_i h
      rw [h.2] at ih
      show val [] = x + 1000000 * val xs
      rw [← ih, h.1]; rfl
    · rw [val, val, ih]

theorem val_divN {d : Int} (hd : 0 < d) (a : List Int) : val (divN a d).1 * d + (divN a d).2 = val a := by
  show val (trimZ (divW d a).1) * d + (divW d a).2 = val a
  rw [val_trimZ]; exact val_divW hd a

theorem allW_of_limbs {xs : List Int} (h : limbs xs) : allW xs 0 999999 = true := allW_of h

theorem isNat_trim {xs : List Int} (h : limbs xs) (hl : xs.length ≤ 40) : isNat (trimZ xs) = true := by
  have h1 := trimZ_len xs
  unfold isNat
  rw [decide_eq_true (by omega), allW_of_limbs fun x hx => h x (trimZ_mem hx)]
  rcases trimZ_last xs with h2 | h2
  · rw [h2]; simp
  · rw [show ((trimZ xs)[(trimZ xs).length - 1]?.getD 0 != 0) = true from by simpa using h2]; simp

theorem val_pos : ∀ {xs : List Int}, limbs xs → xs ≠ [] → xs[xs.length - 1]?.getD 0 ≠ 0 → 0 < val xs
  | [x], h, _, hl => by
    have := h x (by simp)
    simp at hl
    simp [val]; omega
  | x :: y :: xs, h, _, hl => by
    have h1 := val_pos (xs := y :: xs) (fun z hz => h z (List.mem_cons_of_mem _ hz)) (by simp) (by simpa using hl)
    have h2 := h x (by simp)
    rw [val]; omega

def NatP (n : List Int) : Prop := limbs n ∧ n.length ≤ 40 ∧ 0 < val n ∧ isNat n = true

theorem isPos_NatP {n : List Int} (h : isPos n = true) : NatP n := by
  obtain ⟨h1, h2, h3⟩ := isPos_facts h
  have h4 : isNat n = true := by unfold isPos at h; simp at h; exact h.1
  refine ⟨h1, h2, ?_, h4⟩
  unfold isNat at h4
  simp only [Bool.and_eq_true, Bool.or_eq_true, beq_iff_eq, bne_iff_ne] at h4
  exact val_pos h1 (by intro e; subst e; simp at h3) (by rcases h4.2 with h5 | h5
                                                         · omega
                                                         · exact h5)

theorem NatP_pos {n : List Int} (h : NatP n) : 0 < n.length := by
  refine Nat.pos_of_ne_zero fun e => ?_
  have : n = [] := List.length_eq_zero_iff.1 e
  subst this
  exact absurd h.2.2.1 (by simp [val])

theorem pow6_two : ∀ n : Nat, (1000000 : Int) ^ n ≤ 2 ^ (20 * n)
  | 0 => by simp
  | n + 1 => by
    have ih := pow6_two n
    have h1 := pow_pos6 n
    have e1 : (1000000 : Int) ^ (n + 1) = 1000000 ^ n * 1000000 := Int.pow_succ _ _
    have e2 : (2 : Int) ^ (20 * (n + 1)) = 2 ^ (20 * n) * 1048576 := by
      rw [show 20 * (n + 1) = 20 * n + 20 from by omega, Int.pow_add]; rfl
    rw [e1, e2]
    generalize (1000000 : Int) ^ n = a at *
    generalize (2 : Int) ^ (20 * n) = b at *
    omega

theorem two_mono {m n : Nat} (h : m ≤ n) : (2 : Int) ^ m ≤ 2 ^ n := by
  obtain ⟨d, rfl⟩ := Nat.le.dest h
  rw [Int.pow_add]
  have h1 : (0 : Int) < 2 ^ m := Int.pow_pos (by decide)
  have h2 : (0 : Int) < 2 ^ d := Int.pow_pos (by decide)
  have : (2 : Int) ^ m * 1 ≤ 2 ^ m * 2 ^ d := Int.mul_le_mul_of_nonneg_left (by omega) (by omega)
  omega

theorem NatP_lt {n : List Int} (h : NatP n) : val n < 2 ^ (800 - 0) := by
  have h1 := (val_lt h.1).2
  have h2 := pow6_two n.length
  have h3 : (2 : Int) ^ (20 * n.length) ≤ 2 ^ (800 - 0) := two_mono (by have := h.2.1; omega)
  exact Int.lt_of_lt_of_le h1 (Int.le_trans h2 h3)

def valF : Nat → List Int → Int → Int
  | 0, _, _ => 0
  | g + 1, n, p => if (divN n p).2 = 0 then 1 + valF g (divN n p).1 p else 0

def valP (n : List Int) (p : Int) : Int := valF 800 n p

theorem valF_step {k : Nat} {y : List Int} {p : Int} (hk : k < 800) (h : (divN y p).2 = 0) : valF (800 - k) y p = 1 + valF (800 - (k + 1)) (divN y p).1 p := by
  rw [show 800 - k = (800 - (k + 1)) + 1 from by omega, valF, if_pos h]

theorem valF_stop {g : Nat} {y : List Int} {p : Int} (h : ¬ (divN y p).2 = 0) : valF g y p = 0 := by
  cases g with
  | zero => rfl
  | succ g => rw [valF, if_neg h]

theorem NatP_div {y : List Int} {p : Int} (hp : 2 ≤ p ∧ p ≤ 999999) (h : NatP y) (hr : (divN y p).2 = 0) : NatP (divN y p).1 ∧ 2 * val (divN y p).1 ≤ val y := by
  have h1 := val_divN (by omega : 0 < p) y
  rw [hr] at h1
  have h2 := divN_limbs (by omega : 0 < p) h.1
  have h3 := divN_len y p
  have h4 := val_lt h2
  have h5 : 0 < val (divN y p).1 := by
    refine Classical.byContradiction fun hn => ?_
    have h0 : val (divN y p).1 = 0 := by omega
    rw [h0] at h1
    have := h.2.2.1
    omega
  refine ⟨⟨h2, by have := h.2.1; omega, h5, isNat_trim (divW_limbs (by omega) h.1) (by rw [divW_len]; exact h.2.1)⟩, ?_⟩
  have : val (divN y p).1 * 2 ≤ val (divN y p).1 * p := Int.mul_le_mul_of_nonneg_left hp.1 (by omega)
  omega

theorem val_step {k : Nat} {y : List Int} {p : Int} (hp : 2 ≤ p ∧ p ≤ 999999) (h : NatP y) (hv : val y < 2 ^ (800 - k)) (hr : (divN y p).2 = 0) : k < 800 ∧ NatP (divN y p).1 ∧ val (divN y p).1 < 2 ^ (800 - (k + 1)) := by
  have h1 := NatP_div hp h hr
  have hk : k < 800 := by
    refine Classical.byContradiction fun hn => ?_
    rw [show 800 - k = 0 from by omega] at hv
    have := h.2.2.1
    simp at hv; omega
  refine ⟨hk, h1.1, ?_⟩
  rw [show 800 - k = (800 - (k + 1)) + 1 from by omega, Int.pow_succ] at hv
  omega

def valuationOf (n : List Int) (p : Int) : Int × Int := if isNat n = true then (if 0 < n.length ∧ 2 ≤ p ∧ p ≤ 999999 then (valP n p, 0) else (0, 2)) else (0, 1)

/-- No divisor from d on. -/
def noDiv (n d : Int) : Nat → Bool
  | 0 => true
  | g + 1 => if d * d ≤ n then (if n % d = 0 then false else noDiv n (d + 1) g) else true

def primeB (n : Int) : Bool := noDiv n 2 2000 && decide (2 ≤ n)

theorem sq_le {d n : Int} (hd : 0 ≤ d) (hn : n ≤ 999999) (h : d * d ≤ n) : d ≤ 999 := by
  refine Classical.byContradiction fun hc => ?_
  have : 1000 * 1000 ≤ d * d := Int.mul_le_mul (by omega) (by omega) (by omega) hd
  omega

theorem sq_bd {d : Int} (hd : 0 ≤ d ∧ d ≤ 2000) : 0 ≤ d * d ∧ d * d ≤ 4000000 :=
  ⟨Int.mul_nonneg hd.1 hd.1, Int.mul_le_mul hd.2 hd.2 hd.1 (by omega)⟩

theorem noDiv_eq (n d : Int) {f g : Nat} (hf : f = g + 1) : noDiv n d f = if d * d ≤ n then (if n % d = 0 then false else noDiv n (d + 1) g) else true := by subst hf; rfl

set_option maxRecDepth 100000 in
set_option maxHeartbeats 4000000 in
theorem spec_l02Valuation (A0 : Option Addr) (c0 : Nat) (a0 : (List Int)) (a1 : Int) (w : World) (h0 : Sl eInt w (Old w) A0 c0 a0) (hN : NatP a0) (hp : 2 ≤ a1 ∧ a1 ≤ 999999) :
    Calls Try.prog 99 #[.slice A0 a0.length c0, .int .i64 a1] w fun e w' => e = .returned (.int .i64 (valP a0 a1)) ∧ Below w.heap.size w w' := by
  have l0 := h0.len
  have HH1 := Held.start Nob w
  refine enter (n := 20) Try.func99 rfl rfl rfl fun a_2 HE3 => ?_
  refine wp_seq ?_
  refine rg ?_
  refine pl_x HE3 HH1 (wt0 rfl) (x_assign rfl) rfl rfl fun a_4 HE5 => ?_
  refine wpList_nil ?_
  clear a_2 HE3
  refine nrm ?_
  refine wp_seq ?_
  refine rg ?_
  refine pl_x HE5 HH1 (wt0 rfl) (x_assign rfl) rfl rfl fun a_6 HE7 => ?_
  refine wpList_nil ?_
  clear a_4 HE5
  refine nrm ?_
  refine wp_block ?_
  have HH8 := HH1.noIf (p := False) (rSo eInt Nob A0 c0 a0) id
  refine lp (fun m a w' => ∃ (k : Nat) (y : List Int) (A_0 : Option Addr) (c_0 : Nat) (S_0 : Nat → Prop) (P_0 : Prop), m = 800 - k ∧ Env 20 [(0, .slice A_0 (List.length y) c_0), (5, .int .i64 (k : Int)), (1, .int .i64 (a1))] a ∧ Held Nob w [rIf (P_0) (rSo eInt S_0 A_0 c_0 y)] w' ∧ (k ≤ 800) ∧ (NatP y) ∧ (val y < 2 ^ (800 - k)) ∧ (valP a0 a1 = k + valF (800 - k) y a1) ∧ (P_0 ∨ Sl eInt w (Old w) A_0 c_0 y)) (800 - (0)) ?_ ?_
  · exact ⟨0, a0, A0, c0, Nob, False, rfl, HE7.sub ⟨rfl, (lkI rfl (by first | rfl | omega | (simp []; done))), rfl, trivial⟩, (HH8.sel [0] (by decide) rfl), (by first | omega | assumption | (simp; done) | simp_all), (by exact hN), (by exact NatP_lt hN), (by unfold valP; simp), (.inr h0)⟩
  · rintro m a_9 w' ⟨k, y, A_0, c_0, S_0, P_0, rfl, HE10, HH11, p21_0, p21_1, p21_2, p21_3, ho_0⟩
    rcases ho_0 with ho_0 | ho_0
    · have HH12 := HH11.ofIf ho_0
      have hy := p21_1
      obtain ⟨hy1, hy2, hy3, hy4⟩ := hy
      refine wp_block ?_
      refine wp_seq ?_
      refine rg ?_
      refine pl_x HE10 HH12 (wt0 rfl) (x_move rfl) rfl rfl fun a_13 HE14 => ?_
      refine pl_x HE14 HH12 (wt0 rfl) (x_move rfl) rfl rfl fun a_15 HE16 => ?_
      refine pl fun K_17 hK18 => ?_
      refine st_call HE16 (wt0 rfl) rfl rfl rfl en_100 rfl rfl (spec_l02By _ _ y a1 _ (HH12.sl (i := 0) rfl) (by first | assumption | exact mulN_limbs _ _) (by omega) (by first | omega | exact Nat.le_trans (mulN_len (by assumption) (by intro x hx; simp at hx; omega)) (by simp; omega))) fun e w' hr => ?_
      obtain ⟨Ar22_0, cr22_0, rfl, hor22_0, hbr22⟩ := hr
      obtain ⟨Sr22, HH19⟩ := HH12.newS hbr22 hor22_0
      refine ⟨_, rfl, fun a_20 HE21 => hK18 _ _ ?_⟩
      refine pl_x HE21 HH19 (wt0 rfl) (x_move rfl) rfl rfl fun a_22 HE23 => ?_
      refine pl_x HE23 HH19 (wt0 rfl) (x_extract rfl rfl) rfl rfl fun a_24 HE25 => ?_
      refine pl_x HE25 HH19 (wt0 rfl) (x_extract rfl rfl) rfl rfl fun a_26 HE27 => ?_
      refine pl_x HE27 HH19 (wt0 rfl) (x_assign rfl) rfl rfl fun a_28 HE29 => ?_
      refine pl_x HE29 HH19 (wt0 rfl) (x_assign rfl) rfl rfl fun a_30 HE31 => ?_
      refine wpList_nil ?_
      clear HH1 a_6 HE7 HH8 HH11 a_9 HE10 a_13 HE14 HH12 a_15 HE16 a_20 HE21 a_22 HE23 a_24 HE25 a_26 HE27 a_28 HE29 hK18 K_17
      refine nrm ?_
      refine wp_seq ?_
      refine wp_seq ?_
      refine rg ?_
      refine pl_x HE31 HH19 (wt0 rfl) (x_move rfl) rfl rfl fun a_32 HE33 => ?_
      refine pl_x HE33 HH19 (wt0 rfl) (x_neq rfl rfl) rfl rfl fun a_34 HE35 => ?_
      refine wpList_nil ?_
      clear a_30 HE31 a_32 HE33
      refine nrm ?_
      refine cnd_ne HE35 rfl (fun hc23 => ?_) (fun hc23 => ?_)
      · refine wp_seq ?_
        refine rg ?_
        refine pl_x HE35 HH19 (wt0 rfl) (x_move rfl) rfl rfl fun a_36 HE37 => ?_
        refine pl_x HE37 HH19 (wt0 rfl) (x_assign rfl) rfl rfl fun a_38 HE39 => ?_
        refine wpList_nil ?_
        clear a_34 HE35 a_36 HE37
        refine nrm ?_
        refine wp_ret ?_
        refine (thn_ret (blk_ret (thn_ret (blk_ret ?_))))
        refine ret1 HE39 rfl (rv_tmp rfl) ?_
        have hF : (valP a0 a1) = (k : Int) := by
          rw [p21_3, valF_stop (by omega)]; omega
        exact ⟨by rw [hF] <;> rfl, HH19.below⟩
      · refine wp_skip ?_
        refine nrm ?_
        refine wp_seq ?_
        refine rg ?_
        refine pl_x HE35 HH19 (wt0 rfl) (x_move rfl) rfl rfl fun a_40 HE41 => ?_
        refine pl_x HE41 HH19 (wt0 rfl) (x_add rfl rfl (by exact ⟨by omega, by omega⟩)) rfl rfl fun a_42 HE43 => ?_
        refine pl_x HE43 HH19 (wt0 rfl) (x_assign rfl) rfl rfl fun a_44 HE45 => ?_
        refine wpList_nil ?_
        clear a_34 HE35 a_40 HE41 a_42 HE43
        refine nrm ?_
        refine rg ?_
        refine pl_x HE45 HH19 (wt0 rfl) (x_move rfl) rfl rfl fun a_46 HE47 => ?_
        refine pl_x HE47 HH19 (wt0 rfl) (x_assign rfl) rfl rfl fun a_48 HE49 => ?_
        refine wpList_nil ?_
        clear a_44 HE45 a_46 HE47
        refine blk_n ?_
        have HH50 := HH19.toIf True
        have E24 : ((divN y a1).1) = (divN y a1).1 := by
          first | rfl | simp
        exact nrm ⟨800 - (k + 1), (by have := val_step hp p21_1 p21_2 (by omega); omega), k + 1, (divN y a1).1, Ar22_0, cr22_0, Sr22, True, rfl, HE49.sub ⟨(by rw [E24]; rfl), (lkI rfl (by first | rfl | omega | (simp [p21_0, p21_1, p21_2, p21_3, hc23]; done))), rfl, trivial⟩, ((HH50.sel [0] (by decide) rfl).to (by first | rfl | (rw [E24]; done) | (rw [E24]; rfl) | (simp only [E24]; done) | (simp only [E24]; rfl))), (by have := val_step hp p21_1 p21_2 (by omega); omega), (by exact (val_step hp p21_1 p21_2 (by omega)).2.1), (by exact (val_step hp p21_1 p21_2 (by omega)).2.2), (by rw [p21_3, valF_step (val_step hp p21_1 p21_2 (by omega)).1 (by omega)]; omega), (by first | exact .inl trivial | (rw [E24]; exact .inl trivial))⟩
    · have HH51 := HH11.sel [] (by decide) rfl
      have hy := p21_1
      obtain ⟨hy1, hy2, hy3, hy4⟩ := hy
      refine wp_block ?_
      refine wp_seq ?_
      refine rg ?_
      refine pl_x HE10 HH51 (wt0 rfl) (x_move rfl) rfl rfl fun a_52 HE53 => ?_
      refine pl_x HE53 HH51 (wt0 rfl) (x_move rfl) rfl rfl fun a_54 HE55 => ?_
      refine pl fun K_56 hK57 => ?_
      refine st_call HE55 (wt0 rfl) rfl rfl rfl en_100 rfl rfl (spec_l02By _ _ y a1 _ (HH51.old ho_0) (by first | assumption | exact mulN_limbs _ _) (by omega) (by first | omega | exact Nat.le_trans (mulN_len (by assumption) (by intro x hx; simp at hx; omega)) (by simp; omega))) fun e w' hr => ?_
      obtain ⟨Ar25_0, cr25_0, rfl, hor25_0, hbr25⟩ := hr
      obtain ⟨Sr25, HH58⟩ := HH51.newS hbr25 hor25_0
      refine ⟨_, rfl, fun a_59 HE60 => hK57 _ _ ?_⟩
      refine pl_x HE60 HH58 (wt0 rfl) (x_move rfl) rfl rfl fun a_61 HE62 => ?_
      refine pl_x HE62 HH58 (wt0 rfl) (x_extract rfl rfl) rfl rfl fun a_63 HE64 => ?_
      refine pl_x HE64 HH58 (wt0 rfl) (x_extract rfl rfl) rfl rfl fun a_65 HE66 => ?_
      refine pl_x HE66 HH58 (wt0 rfl) (x_assign rfl) rfl rfl fun a_67 HE68 => ?_
      refine pl_x HE68 HH58 (wt0 rfl) (x_assign rfl) rfl rfl fun a_69 HE70 => ?_
      refine wpList_nil ?_
      clear HH1 a_6 HE7 HH8 HH11 a_9 HE10 a_52 HE53 HH51 a_54 HE55 a_59 HE60 a_61 HE62 a_63 HE64 a_65 HE66 a_67 HE68 hK57 K_56
      refine nrm ?_
      refine wp_seq ?_
      refine wp_seq ?_
      refine rg ?_
      refine pl_x HE70 HH58 (wt0 rfl) (x_move rfl) rfl rfl fun a_71 HE72 => ?_
      refine pl_x HE72 HH58 (wt0 rfl) (x_neq rfl rfl) rfl rfl fun a_73 HE74 => ?_
      refine wpList_nil ?_
      clear a_69 HE70 a_71 HE72
      refine nrm ?_
      refine cnd_ne HE74 rfl (fun hc26 => ?_) (fun hc26 => ?_)
      · refine wp_seq ?_
        refine rg ?_
        refine pl_x HE74 HH58 (wt0 rfl) (x_move rfl) rfl rfl fun a_75 HE76 => ?_
        refine pl_x HE76 HH58 (wt0 rfl) (x_assign rfl) rfl rfl fun a_77 HE78 => ?_
        refine wpList_nil ?_
        clear a_73 HE74 a_75 HE76
        refine nrm ?_
        refine wp_ret ?_
        refine (thn_ret (blk_ret (thn_ret (blk_ret ?_))))
        refine ret1 HE78 rfl (rv_tmp rfl) ?_
        have hF : (valP a0 a1) = (k : Int) := by
          rw [p21_3, valF_stop (by omega)]; omega
        exact ⟨by rw [hF] <;> rfl, HH58.below⟩
      · refine wp_skip ?_
        refine nrm ?_
        refine wp_seq ?_
        refine rg ?_
        refine pl_x HE74 HH58 (wt0 rfl) (x_move rfl) rfl rfl fun a_79 HE80 => ?_
        refine pl_x HE80 HH58 (wt0 rfl) (x_add rfl rfl (by exact ⟨by omega, by omega⟩)) rfl rfl fun a_81 HE82 => ?_
        refine pl_x HE82 HH58 (wt0 rfl) (x_assign rfl) rfl rfl fun a_83 HE84 => ?_
        refine wpList_nil ?_
        clear a_73 HE74 a_79 HE80 a_81 HE82
        refine nrm ?_
        refine rg ?_
        refine pl_x HE84 HH58 (wt0 rfl) (x_move rfl) rfl rfl fun a_85 HE86 => ?_
        refine pl_x HE86 HH58 (wt0 rfl) (x_assign rfl) rfl rfl fun a_87 HE88 => ?_
        refine wpList_nil ?_
        clear a_83 HE84 a_85 HE86
        refine blk_n ?_
        have HH89 := HH58.toIf True
        have E27 : ((divN y a1).1) = (divN y a1).1 := by
          first | rfl | simp
        exact nrm ⟨800 - (k + 1), (by have := val_step hp p21_1 p21_2 (by omega); omega), k + 1, (divN y a1).1, Ar25_0, cr25_0, Sr25, True, rfl, HE88.sub ⟨(by rw [E27]; rfl), (lkI rfl (by first | rfl | omega | (simp [p21_0, p21_1, p21_2, p21_3, hc26]; done))), rfl, trivial⟩, ((HH89.sel [0] (by decide) rfl).to (by first | rfl | (rw [E27]; done) | (rw [E27]; rfl) | (simp only [E27]; done) | (simp only [E27]; rfl))), (by have := val_step hp p21_1 p21_2 (by omega); omega), (by exact (val_step hp p21_1 p21_2 (by omega)).2.1), (by exact (val_step hp p21_1 p21_2 (by omega)).2.2), (by rw [p21_3, valF_step (val_step hp p21_1 p21_2 (by omega)).1 (by omega)]; omega), (by first | exact .inl trivial | (rw [E27]; exact .inl trivial))⟩

set_option maxRecDepth 100000 in
set_option maxHeartbeats 4000000 in
theorem impl_ValuationOf (A0 : Option Addr) (c0 : Nat) (a0 : (List Int)) (a1 : Int) (w : World) (h0 : Sl eInt w (Old w) A0 c0 a0) :
    Calls Try.prog 106 #[.slice A0 a0.length c0, .int .i64 a1] w fun e w' => e = .returned (.tuple #[.int .i64 (valuationOf a0 a1).1, .int .i64 (valuationOf a0 a1).2]) ∧ Below w.heap.size w w' := by
  have l0 := h0.len
  have HH1 := Held.start Nob w
  refine enter (n := 32) Try.func106 rfl rfl rfl fun a_2 HE3 => ?_
  refine wp_seq ?_
  refine rg ?_
  refine pl_x HE3 HH1 (wt0 rfl) (x_assign rfl) rfl rfl fun a_4 HE5 => ?_
  refine pl_x HE5 HH1 (wt0 rfl) (x_assign rfl) rfl rfl fun a_6 HE7 => ?_
  refine wpList_nil ?_
  clear a_2 HE3 a_4 HE5
  refine nrm ?_
  refine wp_seq ?_
  refine wp_seq ?_
  refine rg ?_
  refine pl_x HE7 HH1 (wt0 rfl) (x_move rfl) rfl rfl fun a_8 HE9 => ?_
  refine pl fun K_10 hK11 => ?_
  refine st_call HE9 (wt0 rfl) rfl rfl rfl en_159 rfl rfl (impl_IsNatural _ _ a0 _ (HH1.old h0)) fun e w' hr => ?_
  obtain ⟨rfl, rfl⟩ := hr
  refine ⟨_, rfl, fun a_12 HE13 => hK11 _ _ ?_⟩
  refine pl_x HE13 HH1 (wt0 rfl) (x_not rfl) rfl rfl fun a_14 HE15 => ?_
  refine wpList_nil ?_
  clear a_6 HE7 a_8 HE9 a_12 HE13 hK11 K_10
  refine nrm ?_
  refine cnd_nb HE15 rfl (fun hc22 => ?_) (fun hc22 => ?_)
  · refine wp_seq ?_
    refine rg ?_
    refine pl_x HE15 HH1 (wt0 rfl) (x_assign rfl) rfl rfl fun a_16 HE17 => ?_
    refine pl_x HE17 HH1 (wt0 rfl) (x_assign rfl) rfl rfl fun a_18 HE19 => ?_
    refine wpList_nil ?_
    clear a_14 HE15 a_16 HE17
    refine nrm ?_
    refine wp_ret ?_
    refine (thn_ret ?_)
    refine ret2 HE19 rfl (rv_tmp rfl) (rv_tmp rfl) ?_
    have hF : (valuationOf a0 a1) = (0, 1) := by
      first | (simp [valuationOf, hc22]; done) | (unfold valuationOf; rw [if_pos ‹_›, if_neg (by grind [withinB])]; done) | (unfold valuationOf; rw [if_pos ‹_›, if_pos (by omega), p0_3, valF_stop (by omega)]; simp)
    exact ⟨by rw [hF] <;> rfl, HH1.below⟩
  · refine wp_skip ?_
    refine nrm ?_
    refine wp_seq ?_
    refine wp_seq ?_
    refine rg ?_
    refine pl_x HE15 HH1 (wt0 rfl) (x_move rfl) rfl rfl fun a_20 HE21 => ?_
    refine pl_x HE21 HH1 (wt0 rfl) (x_len Try.underlying31 rfl) rfl rfl fun a_22 HE23 => ?_
    refine pl_x HE23 HH1 (wt0 rfl) (x_eql rfl rfl) rfl rfl fun a_24 HE25 => ?_
    refine pl_x HE25 HH1 (wt0 rfl) (x_move rfl) rfl rfl fun a_26 HE27 => ?_
    by_cases hc23 : (a0.length : Int) = 0
    · refine pl_no HE27 (wtF HE27 rfl rfl rfl (beq_t hc23)) rfl rfl fun a_28 HE29 => ?_
      refine pl_no HE29 (wtF HE29 rfl rfl rfl (beq_t hc23)) rfl rfl fun a_30 HE31 => ?_
      refine pl_no HE31 (wtF HE31 rfl rfl rfl (beq_t hc23)) rfl rfl fun a_32 HE33 => ?_
      refine pl_x HE33 HH1 (wt0 rfl) (x_pickT rfl (beq_t hc23) rfl) rfl rfl fun a_34 HE35 => ?_
      refine wpList_nil ?_
      clear a_14 HE15 a_20 HE21 a_22 HE23 a_24 HE25 a_26 HE27 a_28 HE29 a_30 HE31 a_32 HE33
      refine nrm ?_
      refine cndT HE35 rfl rfl ?_
      refine wp_seq ?_
      refine rg ?_
      refine pl_x HE35 HH1 (wt0 rfl) (x_assign rfl) rfl rfl fun a_36 HE37 => ?_
      refine pl_x HE37 HH1 (wt0 rfl) (x_assign rfl) rfl rfl fun a_38 HE39 => ?_
      refine wpList_nil ?_
      clear a_34 HE35 a_36 HE37
      refine nrm ?_
      refine wp_ret ?_
      refine (thn_ret ?_)
      refine ret2 HE39 rfl (rv_tmp rfl) (rv_tmp rfl) ?_
      have hF : (valuationOf a0 a1) = (0, 2) := by
        first | (simp [valuationOf, hc22, hc23]; done) | (unfold valuationOf; rw [if_pos ‹_›, if_neg (by grind [withinB])]; done) | (unfold valuationOf; rw [if_pos ‹_›, if_pos (by omega), p0_3, valF_stop (by omega)]; simp)
      exact ⟨by rw [hF] <;> rfl, HH1.below⟩
    · refine pl_x HE27 HH1 (wtT HE27 rfl rfl rfl (beq_f hc23)) (x_move rfl) rfl rfl fun a_40 HE41 => ?_
      refine pl fun K_42 hK43 => ?_
      refine st_call HE41 (wtT HE41 rfl rfl rfl (beq_f hc23)) rfl rfl rfl en_69 rfl rfl (impl_within a1 2 999999 _ ) fun e w' hr => ?_
      obtain ⟨rfl, rfl⟩ := hr
      refine ⟨_, rfl, fun a_44 HE45 => hK43 _ _ ?_⟩
      refine pl_x HE45 HH1 (wtT HE45 rfl rfl rfl (beq_f hc23)) (x_not rfl) rfl rfl fun a_46 HE47 => ?_
      refine pl_x HE47 HH1 (wt0 rfl) (x_pickF rfl (beq_f hc23) rfl) rfl rfl fun a_48 HE49 => ?_
      refine wpList_nil ?_
      clear a_14 HE15 a_20 HE21 a_22 HE23 a_24 HE25 a_26 HE27 a_40 HE41 a_44 HE45 a_46 HE47 hK43 K_42
      refine nrm ?_
      refine cnd_nb HE49 rfl (fun hc25 => ?_) (fun hc25 => ?_)
      · refine wp_seq ?_
        refine rg ?_
        refine pl_x HE49 HH1 (wt0 rfl) (x_assign rfl) rfl rfl fun a_50 HE51 => ?_
        refine pl_x HE51 HH1 (wt0 rfl) (x_assign rfl) rfl rfl fun a_52 HE53 => ?_
        refine wpList_nil ?_
        clear a_48 HE49 a_50 HE51
        refine nrm ?_
        refine wp_ret ?_
        refine (thn_ret ?_)
        refine ret2 HE53 rfl (rv_tmp rfl) (rv_tmp rfl) ?_
        have hF : (valuationOf a0 a1) = (0, 2) := by
          first | (simp [valuationOf, hc22, hc23, hc25]; done) | (unfold valuationOf; rw [if_pos ‹_›, if_neg (by grind [withinB])]; done) | (unfold valuationOf; rw [if_pos ‹_›, if_pos (by omega), p0_3, valF_stop (by omega)]; simp)
        exact ⟨by rw [hF] <;> rfl, HH1.below⟩
      · have hp := withinB_true.1 hc25
        have hN := isPos_NatP (n := a0) (by unfold isPos; simp [*]; omega)
        refine wp_skip ?_
        refine nrm ?_
        refine wp_seq ?_
        refine rg ?_
        refine pl_x HE49 HH1 (wt0 rfl) (x_assign rfl) rfl rfl fun a_54 HE55 => ?_
        refine wpList_nil ?_
        clear a_48 HE49
        refine nrm ?_
        refine wp_block ?_
        have HH56 := HH1.noIf (p := False) (rSo eInt Nob A0 c0 a0) id
        refine lp (fun m a w' => ∃ (k : Nat) (y : List Int) (A_0 : Option Addr) (c_0 : Nat) (S_0 : Nat → Prop) (P_0 : Prop), m = 800 - k ∧ Env 32 [(0, .slice A_0 (List.length y) c_0), (6, .int .i64 (k : Int)), (1, .int .i64 (a1))] a ∧ Held Nob w [rIf (P_0) (rSo eInt S_0 A_0 c_0 y)] w' ∧ (k ≤ 800) ∧ (NatP y) ∧ (val y < 2 ^ (800 - k)) ∧ (valP a0 a1 = k + valF (800 - k) y a1) ∧ (P_0 ∨ Sl eInt w (Old w) A_0 c_0 y)) (800 - (0)) ?_ ?_
        · exact ⟨0, a0, A0, c0, Nob, False, rfl, HE55.sub ⟨rfl, (lkI rfl (by first | rfl | omega | (simp [hc22, hc23, hc25]; done))), rfl, trivial⟩, (HH56.sel [0] (by decide) rfl), (by first | omega | assumption | (simp; done) | simp_all), (by exact hN), (by exact NatP_lt hN), (by unfold valP; simp), (.inr h0)⟩
        · rintro m a_57 w' ⟨k, y, A_0, c_0, S_0, P_0, rfl, HE58, HH59, p26_0, p26_1, p26_2, p26_3, ho_0⟩
          rcases ho_0 with ho_0 | ho_0
          · have HH60 := HH59.ofIf ho_0
            have hy := p26_1
            obtain ⟨hy1, hy2, hy3, hy4⟩ := hy
            refine wp_seq ?_
            refine wp_block ?_
            refine wp_seq ?_
            refine rg ?_
            refine pl_x HE58 HH60 (wt0 rfl) (x_move rfl) rfl rfl fun a_61 HE62 => ?_
            refine pl_x HE62 HH60 (wt0 rfl) (x_move rfl) rfl rfl fun a_63 HE64 => ?_
            refine pl fun K_65 hK66 => ?_
            refine st_call HE64 (wt0 rfl) rfl rfl rfl en_107 rfl rfl (impl_divideSmall _ _ y a1 _ (HH60.sl (i := 0) rfl) (by first | assumption | exact mulN_limbs _ _) (by omega) (by first | omega | exact Nat.le_trans (mulN_len (by assumption) (by intro x hx; simp at hx; omega)) (by simp; omega))) fun e w' hr => ?_
            obtain ⟨Ar27_0, cr27_0, rfl, hor27_0, hbr27⟩ := hr
            obtain ⟨Sr27, HH67⟩ := HH60.newS hbr27 hor27_0
            refine ⟨_, rfl, fun a_68 HE69 => hK66 _ _ ?_⟩
            refine pl_x HE69 HH67 (wt0 rfl) (x_move rfl) rfl rfl fun a_70 HE71 => ?_
            refine pl_x HE71 HH67 (wt0 rfl) (x_extract rfl rfl) rfl rfl fun a_72 HE73 => ?_
            refine pl_x HE73 HH67 (wt0 rfl) (x_extract rfl rfl) rfl rfl fun a_74 HE75 => ?_
            refine pl_x HE75 HH67 (wt0 rfl) (x_assign rfl) rfl rfl fun a_76 HE77 => ?_
            refine pl_x HE77 HH67 (wt0 rfl) (x_assign rfl) rfl rfl fun a_78 HE79 => ?_
            refine wpList_nil ?_
            clear HH1 a_54 HE55 HH56 HH59 a_57 HE58 a_61 HE62 HH60 a_63 HE64 a_68 HE69 a_70 HE71 a_72 HE73 a_74 HE75 a_76 HE77 hK66 K_65
            refine nrm ?_
            refine wp_seq ?_
            refine wp_seq ?_
            refine rg ?_
            refine pl_x HE79 HH67 (wt0 rfl) (x_move rfl) rfl rfl fun a_80 HE81 => ?_
            refine pl_x HE81 HH67 (wt0 rfl) (x_neq rfl rfl) rfl rfl fun a_82 HE83 => ?_
            refine wpList_nil ?_
            clear a_78 HE79 a_80 HE81
            refine nrm ?_
            refine cnd_ne HE83 rfl (fun hc28 => ?_) (fun hc28 => ?_)
            · refine wp_seq ?_
              refine rg ?_
              refine pl_x HE83 HH67 (wt0 rfl) (x_move rfl) rfl rfl fun a_84 HE85 => ?_
              refine pl_x HE85 HH67 (wt0 rfl) (x_assign rfl) rfl rfl fun a_86 HE87 => ?_
              refine pl_x HE87 HH67 (wt0 rfl) (x_assign rfl) rfl rfl fun a_88 HE89 => ?_
              refine wpList_nil ?_
              clear a_82 HE83 a_84 HE85 a_86 HE87
              refine nrm ?_
              refine wp_ret ?_
              refine (thn_ret (blk_ret (thn_ret (thn_ret (blk_ret ?_)))))
              refine ret2 HE89 rfl (rv_tmp rfl) (rv_tmp rfl) ?_
              have hF : (valuationOf a0 a1) = ((k : Int), 0) := by
                first | (simp [valuationOf, hc22, hc23, hc25, p26_0, p26_1, p26_2, p26_3, hc28]; done) | (unfold valuationOf; rw [if_pos ‹_›, if_neg (by grind [withinB])]; done) | (unfold valuationOf; rw [if_pos ‹_›, if_pos (by omega), p26_3, valF_stop (by omega)]; simp)
              exact ⟨by rw [hF] <;> rfl, HH67.below⟩
            · refine wp_skip ?_
              refine nrm ?_
              refine rg ?_
              refine pl_x HE83 HH67 (wt0 rfl) (x_move rfl) rfl rfl fun a_90 HE91 => ?_
              refine pl_x HE91 HH67 (wt0 rfl) (x_assign rfl) rfl rfl fun a_92 HE93 => ?_
              refine wpList_nil ?_
              clear a_82 HE83 a_90 HE91
              refine blk_n ?_
              refine nrm ?_
              refine rg ?_
              refine pl_x HE93 HH67 (wt0 rfl) (x_move rfl) rfl rfl fun a_94 HE95 => ?_
              refine pl_x HE95 HH67 (wt0 rfl) (x_add rfl rfl (by exact ⟨by omega, by omega⟩)) rfl rfl fun a_96 HE97 => ?_
              refine pl_x HE97 HH67 (wt0 rfl) (x_assign rfl) rfl rfl fun a_98 HE99 => ?_
              refine wpList_nil ?_
              clear a_92 HE93 a_94 HE95 a_96 HE97
              have HH100 := HH67.toIf True
              have E29 : ((divN y a1).1) = (divN y a1).1 := by
                first | rfl | simp
              exact nrm ⟨800 - (k + 1), (by have := val_step hp p26_1 p26_2 (by omega); omega), k + 1, (divN y a1).1, Ar27_0, cr27_0, Sr27, True, rfl, HE99.sub ⟨(by rw [E29]; rfl), (lkI rfl (by first | rfl | omega | (simp [hc22, hc23, hc25, p26_0, p26_1, p26_2, p26_3, hc28]; done))), rfl, trivial⟩, ((HH100.sel [0] (by decide) rfl).to (by first | rfl | (rw [E29]; done) | (rw [E29]; rfl) | (simp only [E29]; done) | (simp only [E29]; rfl))), (by have := val_step hp p26_1 p26_2 (by omega); omega), (by exact (val_step hp p26_1 p26_2 (by omega)).2.1), (by exact (val_step hp p26_1 p26_2 (by omega)).2.2), (by rw [p26_3, valF_step (val_step hp p26_1 p26_2 (by omega)).1 (by omega)]; omega), (by first | exact .inl trivial | (rw [E29]; exact .inl trivial))⟩
          · have HH101 := HH59.sel [] (by decide) rfl
            have hy := p26_1
            obtain ⟨hy1, hy2, hy3, hy4⟩ := hy
            refine wp_seq ?_
            refine wp_block ?_
            refine wp_seq ?_
            refine rg ?_
            refine pl_x HE58 HH101 (wt0 rfl) (x_move rfl) rfl rfl fun a_102 HE103 => ?_
            refine pl_x HE103 HH101 (wt0 rfl) (x_move rfl) rfl rfl fun a_104 HE105 => ?_
            refine pl fun K_106 hK107 => ?_
            refine st_call HE105 (wt0 rfl) rfl rfl rfl en_107 rfl rfl (impl_divideSmall _ _ y a1 _ (HH101.old ho_0) (by first | assumption | exact mulN_limbs _ _) (by omega) (by first | omega | exact Nat.le_trans (mulN_len (by assumption) (by intro x hx; simp at hx; omega)) (by simp; omega))) fun e w' hr => ?_
            obtain ⟨Ar30_0, cr30_0, rfl, hor30_0, hbr30⟩ := hr
            obtain ⟨Sr30, HH108⟩ := HH101.newS hbr30 hor30_0
            refine ⟨_, rfl, fun a_109 HE110 => hK107 _ _ ?_⟩
            refine pl_x HE110 HH108 (wt0 rfl) (x_move rfl) rfl rfl fun a_111 HE112 => ?_
            refine pl_x HE112 HH108 (wt0 rfl) (x_extract rfl rfl) rfl rfl fun a_113 HE114 => ?_
            refine pl_x HE114 HH108 (wt0 rfl) (x_extract rfl rfl) rfl rfl fun a_115 HE116 => ?_
            refine pl_x HE116 HH108 (wt0 rfl) (x_assign rfl) rfl rfl fun a_117 HE118 => ?_
            refine pl_x HE118 HH108 (wt0 rfl) (x_assign rfl) rfl rfl fun a_119 HE120 => ?_
            refine wpList_nil ?_
            clear HH1 a_54 HE55 HH56 HH59 a_57 HE58 a_102 HE103 HH101 a_104 HE105 a_109 HE110 a_111 HE112 a_113 HE114 a_115 HE116 a_117 HE118 hK107 K_106
            refine nrm ?_
            refine wp_seq ?_
            refine wp_seq ?_
            refine rg ?_
            refine pl_x HE120 HH108 (wt0 rfl) (x_move rfl) rfl rfl fun a_121 HE122 => ?_
            refine pl_x HE122 HH108 (wt0 rfl) (x_neq rfl rfl) rfl rfl fun a_123 HE124 => ?_
            refine wpList_nil ?_
            clear a_119 HE120 a_121 HE122
            refine nrm ?_
            refine cnd_ne HE124 rfl (fun hc31 => ?_) (fun hc31 => ?_)
            · refine wp_seq ?_
              refine rg ?_
              refine pl_x HE124 HH108 (wt0 rfl) (x_move rfl) rfl rfl fun a_125 HE126 => ?_
              refine pl_x HE126 HH108 (wt0 rfl) (x_assign rfl) rfl rfl fun a_127 HE128 => ?_
              refine pl_x HE128 HH108 (wt0 rfl) (x_assign rfl) rfl rfl fun a_129 HE130 => ?_
              refine wpList_nil ?_
              clear a_123 HE124 a_125 HE126 a_127 HE128
              refine nrm ?_
              refine wp_ret ?_
              refine (thn_ret (blk_ret (thn_ret (thn_ret (blk_ret ?_)))))
              refine ret2 HE130 rfl (rv_tmp rfl) (rv_tmp rfl) ?_
              have hF : (valuationOf a0 a1) = ((k : Int), 0) := by
                first | (simp [valuationOf, hc22, hc23, hc25, p26_0, p26_1, p26_2, p26_3, hc31]; done) | (unfold valuationOf; rw [if_pos ‹_›, if_neg (by grind [withinB])]; done) | (unfold valuationOf; rw [if_pos ‹_›, if_pos (by omega), p26_3, valF_stop (by omega)]; simp)
              exact ⟨by rw [hF] <;> rfl, HH108.below⟩
            · refine wp_skip ?_
              refine nrm ?_
              refine rg ?_
              refine pl_x HE124 HH108 (wt0 rfl) (x_move rfl) rfl rfl fun a_131 HE132 => ?_
              refine pl_x HE132 HH108 (wt0 rfl) (x_assign rfl) rfl rfl fun a_133 HE134 => ?_
              refine wpList_nil ?_
              clear a_123 HE124 a_131 HE132
              refine blk_n ?_
              refine nrm ?_
              refine rg ?_
              refine pl_x HE134 HH108 (wt0 rfl) (x_move rfl) rfl rfl fun a_135 HE136 => ?_
              refine pl_x HE136 HH108 (wt0 rfl) (x_add rfl rfl (by exact ⟨by omega, by omega⟩)) rfl rfl fun a_137 HE138 => ?_
              refine pl_x HE138 HH108 (wt0 rfl) (x_assign rfl) rfl rfl fun a_139 HE140 => ?_
              refine wpList_nil ?_
              clear a_133 HE134 a_135 HE136 a_137 HE138
              have HH141 := HH108.toIf True
              have E32 : ((divN y a1).1) = (divN y a1).1 := by
                first | rfl | simp
              exact nrm ⟨800 - (k + 1), (by have := val_step hp p26_1 p26_2 (by omega); omega), k + 1, (divN y a1).1, Ar30_0, cr30_0, Sr30, True, rfl, HE140.sub ⟨(by rw [E32]; rfl), (lkI rfl (by first | rfl | omega | (simp [hc22, hc23, hc25, p26_0, p26_1, p26_2, p26_3, hc31]; done))), rfl, trivial⟩, ((HH141.sel [0] (by decide) rfl).to (by first | rfl | (rw [E32]; done) | (rw [E32]; rfl) | (simp only [E32]; done) | (simp only [E32]; rfl))), (by have := val_step hp p26_1 p26_2 (by omega); omega), (by exact (val_step hp p26_1 p26_2 (by omega)).2.1), (by exact (val_step hp p26_1 p26_2 (by omega)).2.2), (by rw [p26_3, valF_step (val_step hp p26_1 p26_2 (by omega)).1 (by omega)]; omega), (by first | exact .inl trivial | (rw [E32]; exact .inl trivial))⟩

set_option maxRecDepth 100000 in
set_option maxHeartbeats 4000000 in
theorem impl_isPrime (a0 : Int) (w : World) (s0 : -1000 ≤ a0 ∧ a0 ≤ 999999) :
    Calls Try.prog 105 #[.int .i64 a0] w fun e w' => e = .returned (.bool (primeB a0)) ∧ Below w.heap.size w w' := by
  have HH1 := Held.start Nob w
  refine enter (n := 17) Try.func105 rfl rfl rfl fun a_2 HE3 => ?_
  refine wp_seq ?_
  refine rg ?_
  refine pl_x HE3 HH1 (wt0 rfl) (x_assign rfl) rfl rfl fun a_4 HE5 => ?_
  refine wpList_nil ?_
  clear a_2 HE3
  refine nrm ?_
  refine wp_seq ?_
  refine wp_seq ?_
  refine rg ?_
  refine pl_x HE5 HH1 (wt0 rfl) (x_assign rfl) rfl rfl fun a_6 HE7 => ?_
  refine wpList_nil ?_
  clear a_4 HE5
  refine nrm ?_
  refine wp_block ?_
  refine lp (fun m a w' => ∃ (k : Nat), m = 1000 - k ∧ Env 17 [(3, .int .i64 ((k : Int) + 2)), (0, .int .i64 (a0))] a ∧ Held Nob w [] w' ∧ ((k : Int) ≤ 999) ∧ (noDiv a0 2 2000 = noDiv a0 ((k : Int) + 2) (2000 - k))) (1000 - (0)) ?_ ?_
  · exact ⟨0, rfl, HE7.sub ⟨(lkI rfl (by first | rfl | omega | (simp []; done))), rfl, trivial⟩, (HH1.sel [] (by decide) rfl), (by first | omega | assumption | (simp; done) | simp_all), (by rfl)⟩
  · rintro m a_8 w' ⟨k, rfl, HE9, HH10, p21_0, p21_1⟩
    have hsq := sq_bd (d := (k : Int) + 2) (by omega)
    have heq := noDiv_eq a0 ((k : Int) + 2) (f := 2000 - k) (g := 2000 - (k + 1)) (by omega)
    refine wp_seq ?_
    refine wp_seq ?_
    refine rg ?_
    refine pl_x HE9 HH10 (wt0 rfl) (x_move rfl) rfl rfl fun a_11 HE12 => ?_
    refine pl_x HE12 HH10 (wt0 rfl) (x_move rfl) rfl rfl fun a_13 HE14 => ?_
    refine pl_x HE14 HH10 (wt0 rfl) (x_mul rfl rfl (by exact ⟨by omega, by omega⟩)) rfl rfl fun a_15 HE16 => ?_
    refine pl_x HE16 HH10 (wt0 rfl) (x_move rfl) rfl rfl fun a_17 HE18 => ?_
    refine pl_x HE18 HH10 (wt0 rfl) (x_leq rfl rfl) rfl rfl fun a_19 HE20 => ?_
    refine wpList_nil ?_
    clear a_6 HE7 HH1 a_8 HE9 a_11 HE12 a_13 HE14 a_15 HE16 a_17 HE18
    refine nrm ?_
    refine cnd_d HE20 rfl (fun hc22 => ?_) (fun hc22 => ?_)
    · refine wp_skip ?_
      refine nrm ?_
      refine wp_seq ?_
      refine wp_block ?_
      refine wp_seq ?_
      refine rg ?_
      refine pl_x HE20 HH10 (wt0 rfl) (x_move rfl) rfl rfl fun a_21 HE22 => ?_
      refine pl_x HE22 HH10 (wt0 rfl) (x_move rfl) rfl rfl fun a_23 HE24 => ?_
      refine pl_x HE24 HH10 (wt0 rfl) (x_rem rfl rfl (by omega) (by omega)) rfl rfl fun a_25 HE26 => ?_
      refine pl_x HE26 HH10 (wt0 rfl) (x_eql rfl rfl) rfl rfl fun a_27 HE28 => ?_
      refine wpList_nil ?_
      clear a_19 HE20 a_21 HE22 a_23 HE24 a_25 HE26
      refine nrm ?_
      refine cnd_e HE28 rfl (fun hc23 => ?_) (fun hc23 => ?_)
      · refine wp_seq ?_
        refine rg ?_
        refine pl_x HE28 HH10 (wt0 rfl) (x_assign rfl) rfl rfl fun a_29 HE30 => ?_
        refine wpList_nil ?_
        clear a_27 HE28
        refine nrm ?_
        refine wp_ret ?_
        refine (blk_ret (thn_ret (thn_ret (blk_ret (thn_ret ?_)))))
        refine ret1 HE30 rfl (rv_tmp rfl) ?_
        have hF : (primeB a0) = false := by
          first | (unfold primeB; rw [p21_1, heq, if_pos (by omega), if_pos (by omega)]; rfl) | (unfold primeB; rw [p21_1, heq, if_neg (by omega)]; simp; done) | (unfold primeB; rw [p21_1, heq, if_neg (by omega)]; simp; omega) | (unfold primeB; rw [decide_eq_false (by omega)]; simp)
        exact ⟨by rw [hF] <;> rfl, HH10.below⟩
      · refine wp_skip ?_
        refine blk_n ?_
        refine nrm ?_
        refine rg ?_
        refine pl_x HE28 HH10 (wt0 rfl) (x_move rfl) rfl rfl fun a_31 HE32 => ?_
        refine pl_x HE32 HH10 (wt0 rfl) (x_add rfl rfl (by exact ⟨by omega, by omega⟩)) rfl rfl fun a_33 HE34 => ?_
        refine pl_x HE34 HH10 (wt0 rfl) (x_assign rfl) rfl rfl fun a_35 HE36 => ?_
        refine wpList_nil ?_
        clear a_27 HE28 a_31 HE32 a_33 HE34
        exact nrm ⟨1000 - (k + 1), (by omega), k + 1, rfl, HE36.sub ⟨(lkI rfl (by first | rfl | omega | (simp [p21_0, p21_1, hc22, hc23]; done))), rfl, trivial⟩, (HH10.sel [] (by decide) rfl), (by have := sq_le (d := (k : Int) + 2) (n := a0) (by omega) (by omega) (by omega); omega), (by rw [p21_1, heq, if_pos (by omega), if_neg (by omega), show (((k + 1 : Nat) : Int) + 2) = (k : Int) + 2 + 1 from by omega])⟩
    · refine wp_exit ?_
      refine (thn_exit (thn_exit (blk_hit ?_)))
      refine nrm ?_
      refine wp_seq ?_
      refine rg ?_
      refine pl_x HE20 HH10 (wt0 rfl) (x_move rfl) rfl rfl fun a_37 HE38 => ?_
      refine pl_x HE38 HH10 (wt0 rfl) (x_geq rfl rfl) rfl rfl fun a_39 HE40 => ?_
      refine pl_x HE40 HH10 (wt0 rfl) (x_assign rfl) rfl rfl fun a_41 HE42 => ?_
      refine wpList_nil ?_
      clear a_19 HE20 a_37 HE38 a_39 HE40
      refine nrm ?_
      refine wp_ret ?_
      refine ret1 HE42 rfl (rv_tmp rfl) ?_
      have hF : (primeB a0) = decide (2 ≤ a0) := by
        first | (unfold primeB; rw [p21_1, heq, if_pos (by omega), if_pos (by omega)]; rfl) | (unfold primeB; rw [p21_1, heq, if_neg (by omega)]; simp; done) | (unfold primeB; rw [p21_1, heq, if_neg (by omega)]; simp; omega) | (unfold primeB; rw [decide_eq_false (by omega)]; simp)
      exact ⟨by rw [hF] <;> rfl, HH10.below⟩

end Go.Proofs.Ytfcajgbehecfbaa
