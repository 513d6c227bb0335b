/- What the proof of FnExactReverseRewrites needs: contracts of the functions that it reaches, each once. -/
import Derived.Test.YtfcajgbehecfbaaProg
import Derived.Test.YtfcajgbehecfbaaQMem
import Derived.Test.YtfcajgbehecfbaaQOpen
import Derived.WalkKit
import Derived.WalkSpells
import Derived.Below
import Derived.LoopTactic
import Derived.Outline
import Derived.Deep.QuietTactic
import Derived.BigQuiet
import Derived.Deep.LoopGhost
import Derived.Handy
import Derived.Lib.Hide
import Derived.Shelf.Abstract
import Derived.StillTailTactics
import Derived.OwnWalk
import Derived.Maps.AppendAt
import Derived.RegionTactic
import Derived.Deep.RegionHeld3
import Derived.IntWalk
import Derived.Deep.Upon
import Derived.Laws.OwnMore
import Derived.Maps.AppendAt
import Derived.Lib.SliceRun
import Derived.Lib.AppendZeros
namespace Go.Proofs.Ytfcajgbehecfbaa
open Go.RowKit

def lk (t : Nat) : List (Nat × Value) → Option Value
  | [] => none
  | (i, v) :: L => bif Nat.beq t i then some v else lk t L

/-- The slots L are known. -/
structure Env (n : Nat) (L : List (Nat × Value)) (a : Act) : Prop where
  defers : a.defers = []
  size : a.tmps.size = n
  get : ∀ t v, lk t L = some v → a.tmps.getD t undef = v

def ev (L : List (Nat × Value)) : Operand → Option Value
  | .tmp t => lk t L
  | .const v => some v
  | .global g => some (.pointer (some ⟨g, 0, none⟩))
  | .func f => some (.func (.func f) #[] #[])

theorem Env.ev {n : Nat} {L : List (Nat × Value)} {a : Act} {x : Operand} {v : Value} (h : Env n L a) (hx : ev L x = some v) : a.eval x = v := by
  cases x with
  | tmp t => exact h.get t v hx
  | const u => simpa [Go.Proofs.Ytfcajgbehecfbaa.ev, Act.eval] using hx
  | global g => simpa [Go.Proofs.Ytfcajgbehecfbaa.ev, Act.eval] using hx
  | func f => simpa [Go.Proofs.Ytfcajgbehecfbaa.ev, Act.eval] using hx

theorem Env.put {n : Nat} {L : List (Nat × Value)} {a : Act} {d : Nat} (h : Env n L a) (hd : Nat.blt d n = true) (v : Value) : Env n ((d, v) :: L) (a.put (some d) v) where
  defers := h.defers
  size := by simpa [Act.put] using h.size
  get := by
    intro t u hu
    have hlt : d < a.tmps.size := by rw [h.size]; exact Nat.blt_eq ▸ hd
    simp only [lk] at hu
    by_cases e : t = d
    · subst e
      simp at hu
      subst hu
      simp [Act.put, Array.getElem?_setIfInBounds_self_of_lt hlt]
    · have e' : Nat.beq t d = false := Bool.eq_false_iff.2 fun h => e (Nat.eq_of_beq_eq_true h)
      rw [e'] at hu
      have := h.get t u hu
      simpa [Act.put, Array.getElem?_setIfInBounds_ne (fun h => e h.symm)] using this

def subE (L : List (Nat × Value)) : List (Nat × Value) → Prop
  | [] => True
  | p :: K => lk p.1 L = some p.2 ∧ subE L K

theorem Env.sub {n : Nat} {L K : List (Nat × Value)} {a : Act} (h : Env n L a) (hs : subE L K) : Env n K a where
  defers := h.defers
  size := h.size
  get := by
    intro t v hv
    refine h.get t v ?_
    clear h
    induction K with
    | nil => cases hv
    | cons p K ih =>
      obtain ⟨i, u⟩ := p
      simp only [lk] at hv
      by_cases e : Nat.beq t i = true
      · rw [e] at hv
        have e' := Nat.eq_of_beq_eq_true e
        simp at hv
        rw [e', hs.1, hv]
      · have e' : Nat.beq t i = false := Bool.eq_false_iff.2 e
        rw [e'] at hv
        exact ih hs.2 hv

theorem Env.sub' {n : Nat} {L K : List (Nat × Value)} {a : Act} (h : Env n L a) (hs : ∀ t v, lk t K = some v → lk t L = some v) : Env n K a := ⟨h.defers, h.size, fun t v hv => h.get t v (hs t v hv)⟩

theorem Env.start {n : Nat} {vs : List Value} {L : List (Nat × Value)} (hL : ∀ t v, lk t L = some v → vs[t]? = some v) (hn : vs.length ≤ n) : Env n L { tmps := vs.toArray ++ Array.replicate (n - vs.toArray.size) undef, defers := [] } where
  defers := rfl
  size := by simp; omega
  get := by
    intro t v hv
    have h1 := hL t v hv
    have h2 := (List.getElem?_eq_some_iff.1 h1).1
    simp only [Array.getD_eq_getD_getElem?, Array.getElem?_append, List.size_toArray, h2, if_true, List.getElem?_toArray, h1, Option.getD_some]

/-- A part of the memory that is held: its blocks, and what is known of them. -/
structure Res where
  S : Nat → Prop
  φ : World → Prop
  loc : ∀ w w' : World, (∀ b, S b → w'.heap[b]? = w.heap[b]?) → φ w → φ w'

/-- Since w0 nothing has changed but blocks of M; the parts rs are held, apart from one another, in M or in new blocks. -/
structure Held (M : Nat → Prop) (w0 : World) (rs : List Res) (w : World) : Prop where
  chg : Chg M w0 w
  ok : ∀ r ∈ rs, r.φ w
  rng : ∀ r ∈ rs, ∀ b, r.S b → (M b ∨ w0.heap.size ≤ b) ∧ b < w.heap.size
  sep : rs.Pairwise fun r s => ∀ b, r.S b → ¬ s.S b

/-- No block. -/
def Nob : Nat → Prop := fun _ => False

def rBlk (g : Nat) (t : TypeId) (cs : List Value) : Res := ⟨fun b => b = g, fun w => Blk w g t cs.toArray, fun _ _ h hb => (h g rfl).trans hb⟩

def rO {α : Type} (E : Enc α) (S : Nat → Prop) (cs : List Value) (x : α) : Res := ⟨S, fun w => E.O w S cs x, fun _ _ h ho => E.okeep ho h⟩

/-- An owned slice. -/
abbrev rSo {α : Type} (E : Enc α) (S : Nat → Prop) (A : Option Addr) (c : Nat) (xs : List α) : Res := rO (eSl E) S [.slice A xs.length c] xs

theorem Held.start (M : Nat → Prop) (w : World) : Held M w [] w := ⟨Chg.refl _ _, (fun _ h => by cases h), (fun _ h => by cases h), List.Pairwise.nil⟩

theorem Held.below {w0 : World} {rs : List Res} {w : World} (h : Held Nob w0 rs w) : Below w0.heap.size w0 w := h.chg.below (Nat.le_refl _) fun _ h => h.elim

theorem Held.size {M : Nat → Prop} {w0 : World} {rs : List Res} {w : World} (h : Held M w0 rs w) : w0.heap.size ≤ w.heap.size := h.chg.size

theorem Held.get {M : Nat → Prop} {w0 : World} {rs : List Res} {w : World} (h : Held M w0 rs w) {i : Nat} {r : Res} (hi : rs[i]? = some r) : r.φ w := h.ok r (List.mem_of_getElem? hi)

theorem Held.drew {M : Nat → Prop} {w0 : World} {rs : List Res} {w : World} (h : Held M w0 rs w) : Held M w0 rs w.drew := ⟨h.chg.drew, fun r hr => r.loc w _ (fun _ _ => rfl) (h.ok r hr), h.rng, h.sep⟩

theorem Held.on {M : Nat → Prop} {w0 : World} {rs : List Res} {w w' : World} (h : Held M w0 rs w) (hb : Below w.heap.size w w') : Held M w0 rs w' where
  chg := h.chg.trans (.of_below hb)
  ok := fun r hr => r.loc _ _ (fun b hS => hb.block b (h.rng r hr b hS).2) (h.ok r hr)
  rng := fun r hr b hS => ⟨(h.rng r hr b hS).1, Nat.lt_of_lt_of_le (h.rng r hr b hS).2 hb.size⟩
  sep := h.sep

/-- A call has made r. -/
theorem Held.new {M : Nat → Prop} {w0 : World} {rs : List Res} {w w' : World} (h : Held M w0 rs w) (hb : Below w.heap.size w w') (r : Res) (hr : r.φ w') (hS : ∀ b, r.S b → w.heap.size ≤ b ∧ b < w'.heap.size) : Held M w0 (r :: rs) w' where
  chg := (h.on hb).chg
  ok := by
    intro s hs
    rcases List.mem_cons.1 hs with rfl | hs
    · exact hr
    · exact (h.on hb).ok s hs
  rng := by
    intro s hs
    rcases List.mem_cons.1 hs with rfl | hs
    · exact fun b hb' => ⟨.inr (Nat.le_trans h.size (hS b hb').1), (hS b hb').2⟩
    · exact (h.on hb).rng s hs
  sep := List.pairwise_cons.2 ⟨fun s hs b hb1 hb2 => by have h1 := (hS b hb1).1; have h2 := (h.rng s hs b hb2).2; omega, h.sep⟩

theorem Held.newO {M : Nat → Prop} {w0 : World} {rs : List Res} {w w' : World} {α : Type} {E : Enc α} {cs : List Value} {x : α} (h : Held M w0 rs w) (hb : Below w.heap.size w w') (ho : E.O w' (Fr w w') cs x) : ∃ S, Held M w0 (rO E S cs x :: rs) w' :=
  ⟨Fr w w', h.new hb (rO E (Fr w w') cs x) ho fun _ h => h⟩

theorem Held.newS {M : Nat → Prop} {w0 : World} {rs : List Res} {w w' : World} {α : Type} {E : Enc α} {A : Option Addr} {c : Nat} {xs : List α} (h : Held M w0 rs w) (hb : Below w.heap.size w w') (ho : So E w' (Fr w w') A c xs) : ∃ S, Held M w0 (rSo E S A c xs :: rs) w' := h.newO hb (oSl ho)

theorem Held.alloc {M : Nat → Prop} {w0 : World} {rs : List Res} {w : World} (h : Held M w0 rs w) (t : TypeId) (cs : List Value) : Held M w0 (rBlk w.heap.size t cs :: rs) (w.alloc (.cells cs.toArray t)) :=
  h.new ((Below.refl _ _).alloc (Nat.le_refl _) _) (rBlk w.heap.size t cs) (Blk.new w t cs.toArray) fun b (hb : b = _) => by subst hb; simp

def pick (rs : List Res) : List Nat → Option (List Res)
  | [] => some []
  | i :: is => match rs[i]?, pick rs is with
    | some r, some q => some (r :: q)
    | _, _ => none

theorem pick_get {rs rs' : List Res} {is : List Nat} (h : pick rs is = some rs') : ∀ (k : Nat) (r : Res), rs'[k]? = some r → ∃ i, is[k]? = some i ∧ rs[i]? = some r := by
  induction is generalizing rs' with
  | nil => simp [pick] at h; subst h; intro k r hr; simp at hr
  | cons i is ih =>
    simp only [pick] at h
    cases hi : rs[i]? with
    | none => simp [hi] at h
    | some r0 =>
      cases hm : pick rs is with
      | none => simp [hi, hm] at h
      | some rs2 =>
        simp [hi, hm] at h
        subst h
        intro k r hr
        rcases k with _ | k
        · simp at hr; subst hr; exact ⟨i, rfl, hi⟩
        · simp at hr; exact ih hm k r hr

theorem sep_at {rs : List Res} (h : rs.Pairwise fun r s => ∀ b, r.S b → ¬ s.S b) {i j : Nat} {r s : Res} (hi : rs[i]? = some r) (hj : rs[j]? = some s) (hij : i ≠ j) : ∀ b, r.S b → ¬ s.S b := by
  obtain ⟨li, rfl⟩ := List.getElem?_eq_some_iff.1 hi
  obtain ⟨lj, rfl⟩ := List.getElem?_eq_some_iff.1 hj
  rw [List.pairwise_iff_getElem] at h
  rcases Nat.lt_or_gt_of_ne hij with hlt | hlt
  · exact h i j li lj hlt
  · exact fun b h1 h2 => h j i lj li hlt b h2 h1

/-- Some of the parts, in another order. -/
theorem Held.sel {M : Nat → Prop} {w0 : World} {rs : List Res} {w : World} (h : Held M w0 rs w) (is : List Nat) {rs' : List Res} (hn : is.Nodup) (hs : pick rs is = some rs') : Held M w0 rs' w where
  chg := h.chg
  ok := by
    intro r hr
    obtain ⟨k, hk⟩ := List.mem_iff_getElem?.1 hr
    obtain ⟨i, _, hi⟩ := pick_get hs k r hk
    exact h.get hi
  rng := by
    intro r hr
    obtain ⟨k, hk⟩ := List.mem_iff_getElem?.1 hr
    obtain ⟨i, _, hi⟩ := pick_get hs k r hk
    exact h.rng r (List.mem_of_getElem? hi)
  sep := by
    rw [List.pairwise_iff_getElem]
    intro k l lk ll hkl
    obtain ⟨i, h1, hi⟩ := pick_get hs k _ (List.getElem?_eq_getElem lk)
    obtain ⟨j, h2, hj⟩ := pick_get hs l _ (List.getElem?_eq_getElem ll)
    refine sep_at h.sep hi hj ?_
    rintro rfl
    obtain ⟨l1, e1⟩ := List.getElem?_eq_some_iff.1 h1
    obtain ⟨l2, e2⟩ := List.getElem?_eq_some_iff.1 h2
    have := List.pairwise_iff_getElem.1 hn k l l1 l2 hkl
    exact this (e1.trans e2.symm)

/-- What was there at the start, outside M, reads so still. -/
theorem Held.cell0 {M : Nat → Prop} {w0 : World} {rs : List Res} {w : World} (h : Held M w0 rs w) {p : Addr} (hp : p.block < w0.heap.size) (hM : ¬ M p.block) : w.cell? p = w0.cell? p := World.cell?_of_block (w := w0) (h.chg.block p.block hp hM)

theorem Held.old {w0 : World} {rs : List Res} {w : World} {α : Type} {E : Enc α} {A : Option Addr} {c : Nat} {xs : List α} (h : Held Nob w0 rs w) (hs : Sl E w0 (Old w0) A c xs) : Sl E w (Old w) A c xs := hs.on h.below

theorem Held.oldR {w0 : World} {rs : List Res} {w : World} {α : Type} {E : Enc α} {cs : List Value} {x : α} (h : Held Nob w0 rs w) (hs : E.R w0 (Old w0) cs x) : E.R w (Old w) cs x := E.on hs h.below

theorem Held.rd {M : Nat → Prop} {w0 : World} {rs : List Res} {w : World} {α : Type} {E : Enc α} {S : Nat → Prop} {cs : List Value} {x : α} (h : Held M w0 rs w) {i : Nat} (hi : rs[i]? = some (rO E S cs x)) : E.R w (Old w) cs x :=
  E.more (E.read (h.get hi)) fun b hb => (h.rng _ (List.mem_of_getElem? hi) b hb).2

theorem so_of_o {α : Type} {E : Enc α} {w : World} {S : Nat → Prop} {A : Option Addr} {c : Nat} {xs : List α} (h : (eSl E).O w S [.slice A xs.length c] xs) : So E w S A c xs := by
  obtain ⟨A', c', he, hs⟩ := h
  simp only [List.cons.injEq, Value.slice.injEq, and_true, true_and] at he
  obtain ⟨rfl, rfl⟩ := he
  exact hs

theorem sl_of_r {α : Type} {E : Enc α} {w : World} {S : Nat → Prop} {A : Option Addr} {c : Nat} {xs : List α} (h : (eSl E).R w S [.slice A xs.length c] xs) : Sl E w S A c xs := by
  obtain ⟨A', c', he, hs⟩ := h
  simp only [List.cons.injEq, Value.slice.injEq, and_true, true_and] at he
  obtain ⟨rfl, rfl⟩ := he
  exact hs

theorem Held.sl {M : Nat → Prop} {w0 : World} {rs : List Res} {w : World} {α : Type} {E : Enc α} {S : Nat → Prop} {A : Option Addr} {c : Nat} {xs : List α} (h : Held M w0 rs w) {i : Nat} (hi : rs[i]? = some (rSo E S A c xs)) : Sl E w (Old w) A c xs := sl_of_r (h.rd hi)

theorem Held.so {w0 : World} {rs : List Res} {w : World} {α : Type} {E : Enc α} {S : Nat → Prop} {A : Option Addr} {c : Nat} {xs : List α} (h : Held Nob w0 rs w) {i : Nat} (hi : rs[i]? = some (rSo E S A c xs)) : So E w (Fr w0 w) A c xs :=
  (so_of_o (h.get hi)).more fun b hb => by
    have h1 := h.rng _ (List.mem_of_getElem? hi) b hb
    exact ⟨h1.1.resolve_left fun h => h.elim, h1.2⟩

theorem Held.o {w0 : World} {rs : List Res} {w : World} {α : Type} {E : Enc α} {S : Nat → Prop} {cs : List Value} {x : α} (h : Held Nob w0 rs w) {i : Nat} (hi : rs[i]? = some (rO E S cs x)) : E.O w (Fr w0 w) cs x :=
  E.omore (h.get hi) fun b hb => by
    have h1 := h.rng _ (List.mem_of_getElem? hi) b hb
    exact ⟨h1.1.resolve_left fun h => h.elim, h1.2⟩

/-- Part i is rewritten: only its blocks have changed, and new ones have come. -/
theorem Held.mut {M : Nat → Prop} {w0 : World} {rs : List Res} {w w' : World} (h : Held M w0 rs w) {i : Nat} {r : Res} (hi : rs[i]? = some r) (hc : Chg r.S w w') (r' : Res) (hr : r'.φ w') (hS : ∀ b, r'.S b → r.S b ∨ (w.heap.size ≤ b ∧ b < w'.heap.size)) : Held M w0 (rs.set i r') w' where
  chg := by
    refine ⟨hc.os.trans h.chg.os, hc.tape.trans h.chg.tape, hc.output.trans h.chg.output, Nat.le_trans h.chg.size hc.size, fun k hk hM => ?_⟩
    refine (hc.block k (Nat.lt_of_lt_of_le hk h.chg.size) fun hS' => ?_).trans (h.chg.block k hk hM)
    rcases (h.rng r (List.mem_of_getElem? hi) k hS').1 with h1 | h1
    · exact hM h1
    · omega
  ok := by
    intro s hs
    obtain ⟨j, hj⟩ := List.mem_iff_getElem?.1 hs
    by_cases e : i = j
    · subst e
      rw [List.getElem?_set_self (List.getElem?_eq_some_iff.1 hi).1] at hj
      simp at hj; subst hj; exact hr
    · rw [List.getElem?_set_ne e] at hj
      refine s.loc _ _ (fun b hb => hc.block b (h.rng s (List.mem_of_getElem? hj) b hb).2 fun hb' => sep_at h.sep hi hj e b hb' hb) (h.get hj)
  rng := by
    intro s hs b hb
    obtain ⟨j, hj⟩ := List.mem_iff_getElem?.1 hs
    by_cases e : i = j
    · subst e
      rw [List.getElem?_set_self (List.getElem?_eq_some_iff.1 hi).1] at hj
      simp at hj; subst hj
      rcases hS b hb with h1 | h1
      · have h2 := h.rng r (List.mem_of_getElem? hi) b h1
        exact ⟨h2.1, Nat.lt_of_lt_of_le h2.2 hc.size⟩
      · exact ⟨.inr (Nat.le_trans h.size h1.1), h1.2⟩
    · rw [List.getElem?_set_ne e] at hj
      have h2 := h.rng s (List.mem_of_getElem? hj) b hb
      exact ⟨h2.1, Nat.lt_of_lt_of_le h2.2 hc.size⟩
  sep := by
    have key : ∀ (j : Nat) (s : Res), i ≠ j → rs[j]? = some s → ∀ b, r'.S b → ¬ s.S b := by
      intro j s e hj b hb hb'
      rcases hS b hb with h1 | h1
      · exact sep_at h.sep hi hj e b h1 hb'
      · have := (h.rng s (List.mem_of_getElem? hj) b hb').2; omega
    rw [List.pairwise_iff_getElem]
    intro k l lk ll hkl b hb hb'
    have lk' : k < rs.length := by simpa using lk
    have ll' : l < rs.length := by simpa using ll
    by_cases e1 : i = k
    · subst e1
      rw [List.getElem_set_self] at hb
      rw [List.getElem_set_ne (by omega)] at hb'
      exact key l _ (by omega) (List.getElem?_eq_getElem ll') b hb hb'
    · by_cases e2 : i = l
      · subst e2
        rw [List.getElem_set_self] at hb'
        rw [List.getElem_set_ne (by omega)] at hb
        exact key k _ e1 (List.getElem?_eq_getElem lk') b hb' hb
      · rw [List.getElem_set_ne e1] at hb
        rw [List.getElem_set_ne e2] at hb'
        exact List.pairwise_iff_getElem.1 h.sep k l lk' ll' hkl b hb hb'

theorem Held.set {M : Nat → Prop} {w0 : World} {rs : List Res} {w : World} (h : Held M w0 rs w) {i : Nat} {g : Nat} {t : TypeId} {cs : List Value} (hi : rs[i]? = some (rBlk g t cs)) (o : Nat) (v : Value) : Held M w0 (rs.set i (rBlk g t (cs.set o v))) (w.setCell ⟨g, o, none⟩ v) := by
  refine h.mut hi ((Chg.refl _ _).set (by exact rfl) _) (rBlk g t (cs.set o v)) ?_ fun b hb => .inl hb
  have := Blk.set (h.get hi) o v
  have e : cs.toArray.setIfInBounds o v = (cs.set o v).toArray := by simp
  rw [e] at this
  exact this

/-- Two parts become one. -/
theorem Held.join {M : Nat → Prop} {w0 : World} {r s : Res} {rs : List Res} {w : World} (h : Held M w0 (r :: s :: rs) w) (q : Res) (hq : r.φ w → s.φ w → (∀ b, r.S b → ¬ s.S b) → q.φ w) (hS : ∀ b, q.S b → r.S b ∨ s.S b) : Held M w0 (q :: rs) w where
  chg := h.chg
  ok := by
    intro x hx
    rcases List.mem_cons.1 hx with rfl | hx
    · exact hq (h.ok r (by simp)) (h.ok s (by simp)) ((List.pairwise_cons.1 h.sep).1 s (by simp))
    · exact h.ok x (by simp [hx])
  rng := by
    intro x hx b hb
    rcases List.mem_cons.1 hx with rfl | hx
    · rcases hS b hb with h1 | h1
      · exact h.rng r (by simp) b h1
      · exact h.rng s (by simp) b h1
    · exact h.rng x (by simp [hx]) b hb
  sep := by
    have h1 := List.pairwise_cons.1 h.sep
    have h2 := List.pairwise_cons.1 h1.2
    refine List.pairwise_cons.2 ⟨fun x hx b hb hb' => ?_, h2.2⟩
    rcases hS b hb with h3 | h3
    · exact h1.1 x (by simp [hx]) b h3 hb'
    · exact h2.1 x hx b h3 hb'

/-- One part turned into another over the same blocks. -/
theorem Held.turn {M : Nat → Prop} {w0 : World} {r : Res} {rs : List Res} {w : World} (h : Held M w0 (r :: rs) w) (q : Res) (hq : r.φ w → q.φ w) (hS : ∀ b, q.S b → r.S b) : Held M w0 (q :: rs) w where
  chg := h.chg
  ok := by
    intro x hx
    rcases List.mem_cons.1 hx with rfl | hx
    · exact hq (h.ok r (by simp))
    · exact h.ok x (by simp [hx])
  rng := by
    intro x hx b hb
    rcases List.mem_cons.1 hx with rfl | hx
    · exact h.rng r (by simp) b (hS b hb)
    · exact h.rng x (by simp [hx]) b hb
  sep := by
    have h1 := List.pairwise_cons.1 h.sep
    exact List.pairwise_cons.2 ⟨fun x hx b hb hb' => h1.1 x hx b (hS b hb) hb', h1.2⟩

theorem Held.pair {M : Nat → Prop} {w0 : World} {rs : List Res} {w : World} {α β : Type} {E : Enc α} {F : Enc β} {S1 S2 : Nat → Prop} {c1 c2 : List Value} {x : α} {y : β} (h : Held M w0 (rO E S1 c1 x :: rO F S2 c2 y :: rs) w) : Held M w0 (rO (ePr E F) (fun b => S1 b ∨ S2 b) (c1 ++ c2) (x, y) :: rs) w :=
  h.join _ (fun h1 h2 hd => ⟨c1, c2, S1, S2, rfl, fun b hb => ⟨.inl hb, hd b hb⟩, fun b hb => .inr hb, h1, h2⟩) fun _ hb => hb

/-- A flat part in front. -/
theorem Held.pairF {M : Nat → Prop} {w0 : World} {rs : List Res} {w : World} {α β : Type} {E : Enc α} {F : Enc β} {S : Nat → Prop} {c1 c2 : List Value} {x : α} {y : β} (h : Held M w0 (rO F S c2 y :: rs) w) (hx : E.O w Nob c1 x) : Held M w0 (rO (ePr E F) S (c1 ++ c2) (x, y) :: rs) w :=
  h.turn _ (fun h2 => ⟨c1, c2, Nob, S, rfl, fun b hb => hb.elim, fun b hb => hb, hx, h2⟩) fun _ hb => hb

/-- A flat part behind. -/
theorem Held.pairB {M : Nat → Prop} {w0 : World} {rs : List Res} {w : World} {α β : Type} {E : Enc α} {F : Enc β} {S : Nat → Prop} {c1 c2 : List Value} {x : α} {y : β} (h : Held M w0 (rO E S c1 x :: rs) w) (hy : F.O w Nob c2 y) : Held M w0 (rO (ePr E F) S (c1 ++ c2) (x, y) :: rs) w :=
  h.turn _ (fun h2 => ⟨c1, c2, S, Nob, rfl, fun b hb => ⟨hb, fun h => h⟩, fun b hb => hb.elim, h2, hy⟩) fun _ hb => hb

/-- In every world that meets S, operation o yields v and does nothing else. -/
def XS (P : Program) (S : World → Prop) (L : List (Nat × Value)) (o : Oper) (v : Value) : Prop :=
  ∀ (n : Nat) (a : Act) (w : World), Env n L a → S w → (execOp a.eval o).run P w = .ok (.value v) w

abbrev Stp (P : Program) (ops : Array Oper) (Q : Exit → Act → World → Prop) (o : Oper) (a : Act) (w : World) (K : Act → World → Prop) : Prop :=
  if Region.wanted o (yielded ops a.tmps) = true then Oper.wp P o a w K Q else K (a.put o.dst undef) w

theorem wt0 {o : Oper} {ops : Array Oper} {a : Act} (hg : o.guard = none) : Region.wanted o (yielded ops a.tmps) = true := by simp [Region.wanted, hg]

theorem yielded_at {n : Nat} {L : List (Nat × Value)} {a : Act} {ops : Array Oper} {g t : Nat} {b : Bool} (hE : Env n L a) (ht : (ops[g]?).bind (·.dst) = some t) (hl : lk t L = some (.bool b)) : yielded ops a.tmps g = some b := by
  have h := hE.get t _ hl
  have hsz : a.tmps[t]? = some (.bool b) := by
    rw [Array.getD_eq_getD_getElem?] at h
    cases h' : a.tmps[t]? with
    | none => rw [h'] at h; simp [undef] at h
    | some v => rw [h'] at h; simp at h; rw [h]
  simp [yielded, ht, hsz]

theorem wtT {n : Nat} {L : List (Nat × Value)} {a : Act} {o : Oper} {ops : Array Oper} {g t : Nat} {b want : Bool} (hE : Env n L a) (hg : o.guard = some (g, want)) (ht : (ops[g]?).bind (·.dst) = some t) (hl : lk t L = some (.bool b)) (hb : b = want) : Region.wanted o (yielded ops a.tmps) = true := by
  simp [Region.wanted, hg, yielded_at hE ht hl, hb]

theorem wtF {n : Nat} {L : List (Nat × Value)} {a : Act} {o : Oper} {ops : Array Oper} {g t : Nat} {b want : Bool} (hE : Env n L a) (hg : o.guard = some (g, want)) (ht : (ops[g]?).bind (·.dst) = some t) (hl : lk t L = some (.bool b)) (hb : b = !want) : Region.wanted o (yielded ops a.tmps) = false := by
  subst hb; cases want <;> simp [Region.wanted, hg, yielded_at hE ht hl]

theorem st_val {P : Program} {ops : Array Oper} {Q : Exit → Act → World → Prop} {o : Oper} {a : Act} {w w' : World} {K : Act → World → Prop} {n d : Nat} {L : List (Nat × Value)} {v : Value} (hE : Env n L a) (hw : Region.wanted o (yielded ops a.tmps) = true) (hr : (execOp a.eval o).run P w = .ok (.value v) w') (hd : o.dst = some d) (hn : Nat.blt d n = true)
    (k : ∀ a', Env n ((d, v) :: L) a' → K a' w') : Stp P ops Q o a w K := by
  unfold Stp; rw [if_pos hw]; unfold Oper.wp; rw [hr]; simp only [Oper.upon]; rw [hd]; exact k _ (hE.put hn v)

theorem st_x {P : Program} {S : World → Prop} {ops : Array Oper} {Q : Exit → Act → World → Prop} {o : Oper} {a : Act} {w : World} {K : Act → World → Prop} {n d : Nat} {L : List (Nat × Value)} {v : Value} (hE : Env n L a) (hS : S w) (hw : Region.wanted o (yielded ops a.tmps) = true) (hx : XS P S L o v) (hd : o.dst = some d) (hn : Nat.blt d n = true)
    (k : ∀ a', Env n ((d, v) :: L) a' → K a' w) : Stp P ops Q o a w K := st_val hE hw (hx _ _ _ hE hS) hd hn k

theorem st_skip {P : Program} {ops : Array Oper} {Q : Exit → Act → World → Prop} {o : Oper} {a : Act} {w w' : World} {K : Act → World → Prop} (hw : Region.wanted o (yielded ops a.tmps) = true) (hr : (execOp a.eval o).run P w = .ok .skip w') (hd : o.dst = none)
    (k : K a w') : Stp P ops Q o a w K := by
  unfold Stp; rw [if_pos hw]; unfold Oper.wp; rw [hr]; simp only [Oper.upon]; rw [hd]; exact k

theorem st_no {P : Program} {ops : Array Oper} {Q : Exit → Act → World → Prop} {o : Oper} {a : Act} {w : World} {K : Act → World → Prop} {n d : Nat} {L : List (Nat × Value)} (hE : Env n L a) (hw : Region.wanted o (yielded ops a.tmps) = false) (hd : o.dst = some d) (hn : Nat.blt d n = true)
    (k : ∀ a', Env n ((d, undef) :: L) a' → K a' w) : Stp P ops Q o a w K := by
  unfold Stp; rw [if_neg (by rw [hw]; simp), hd]; exact k _ (hE.put hn _)

def evs (L : List (Nat × Value)) : List Operand → Option (List Value)
  | [] => some []
  | x :: xs => match ev L x, evs L xs with
    | some v, some vs => some (v :: vs)
    | _, _ => none

theorem evs_map {n : Nat} {L : List (Nat × Value)} {a : Act} (hE : Env n L a) : ∀ (xs : List Operand) (vs : List Value), evs L xs = some vs → xs.map a.eval = vs
  | [], vs, h => by simp [evs] at h; subst h; rfl
  | x :: xs, vs, h => by
    simp only [evs] at h
    cases h1 : ev L x with
    | none => simp [h1] at h
    | some v =>
      cases h2 : evs L xs with
      | none => simp [h1, h2] at h
      | some us =>
        simp [h1, h2] at h
        subst h
        rw [List.map_cons, hE.ev h1, evs_map hE xs us h2]

/-- A call of a Go function by its contract. -/
theorem st_call {P : Program} {ops : Array Oper} {Q : Exit → Act → World → Prop} {o : Oper} {a : Act} {w : World} {K : Act → World → Prop} {n d F : Nat} {L : List (Nat × Value)} {f : Operand} {xs : List Operand} {ts : Array TypeId} {vs : List Value} {R : Ending → World → Prop}
    (hE : Env n L a) (hw : Region.wanted o (yielded ops a.tmps) = true) (ho : o.op = .call { callee := .value f, args := xs.toArray, argTypes := ts }) (hf : ev L f = some (.func (.func F) #[] #[])) (hx : evs L xs = some vs)
    (hen : ∀ args w, (callFunc F args).run P w = .ok (.enter F args) w) (hd : o.dst = some d) (hn : Nat.blt d n = true) (hc : Calls P F vs.toArray w R)
    (k : ∀ e w', R e w' → ∃ v, e = .returned v ∧ ∀ a', Env n ((d, v) :: L) a' → K a' w') : Stp P ops Q o a w K := by
  unfold Stp; rw [if_pos hw]; unfold Oper.wp
  have hr : (execOp a.eval o).run P w = .ok (.enter F vs.toArray) w := by
    unfold execOp
    simp only [ho, resolve, hE.ev hf, Deferred.ofValue, Sem.run_bind, Sem.run_pure, Result.andThen_ok, invoke, List.map_toArray, evs_map hE xs vs hx]
    simpa using hen vs.toArray w
  rw [hr]; simp only [Oper.upon]; rw [hd]
  refine hc.mono fun e w' hR => ?_
  obtain ⟨v, rfl, h⟩ := k e w' hR
  exact h _ (hE.put hn v)

theorem rg {P : Program} {Q : Exit → Act → World → Prop} {a : Act} {w : World} {id : Nat} {l : List Oper} (h : wpList P l.toArray Q l a w) : (Code.region id l.toArray false).wp P Q a w := wp_region_lit h

theorem dr_start {P : Program} {ops : Array Oper} {Q : Exit → Act → World → Prop} {a : Act} {w : World} {id : Nat} {M : Nat → Prop} {w0 : World} {rs : List Res} (S : World → Prop) (m : Nat) (ls : Array Bool) (hm : P.follows .mixedOrders = true) (hz : ops.size = m) (hls : Array.replicate m false = ls) (hH : Held M w0 rs w) (hS : ∀ w, Held M w0 rs w → S w)
    (k : ∀ w', Held M w0 rs w' → wpAnyH P .any ops Q S m ls a w') : (Code.region id ops true).wp P Q a w := by
  refine wp_region_held_drew (S := S) hm (hS _ hH.drew) fun _ => ?_
  rw [hz, hls]; exact k _ hH.drew

theorem dr_take {P : Program} {ops : Array Oper} {Q : Exit → Act → World → Prop} {a : Act} {w : World} {S : World → Prop} {m : Nat} {ls ls' : Array Bool} {i n d : Nat} {o : Oper} {v : Value} {L : List (Nat × Value)} (hE : Env n L a) (hS : S w) (hi : ops[i]? = some o) (hs : Region.noSelect ops = true) (hf : Region.free .any ops ls i = true) (hr : (Region.ready .any ops ls).contains i = true)
    (hQ : ∀ c a w, Q (.panic c) (a.put o.dst v) w → Q (.panic c) a w) (hls : ls.setIfInBounds i true = ls') (hw : Region.wanted o (yielded ops a.tmps) = true) (hx : XS P S L o v) (hd : o.dst = some d) (hn : Nat.blt d n = true)
    (k : ∀ a', Env n ((d, v) :: L) a' → wpAnyH P .any ops Q S m ls' a' w) : wpAnyH P .any ops Q S (m + 1) ls a w := by
  refine wpAnyH_take hi hs hf hr hQ (.inl ⟨hw, fun w hS => hx _ _ _ hE hS⟩) hS ?_
  rw [hls, hd]; exact k _ (hE.put hn v)

theorem dr_one {P : Program} {ops : Array Oper} {Q : Exit → Act → World → Prop} {a : Act} {w : World} {S : World → Prop} {m : Nat} {ls ls' : Array Bool} {i : Nat} {o : Oper} (hi : ops[i]? = some o) (hr : Region.ready .any ops ls = [i]) (hls : ls.setIfInBounds i true = ls')
    (k : ∀ K : Act → World → Prop, (∀ a w, S w → wpAnyH P .any ops Q S m ls' a w → K a w) → Stp P ops Q o a w K) : wpAnyH P .any ops Q S (m + 1) ls a w := by
  subst hls
  exact wpAnyH_ready hr (by simp) (AllReadyH.cons hi (fun K hK => k K fun a w hS hW => hK.out a w hS fun _ => hW) AllReadyH.nil)

theorem dr_done {P : Program} {ops : Array Oper} {Q : Exit → Act → World → Prop} {a : Act} {w : World} {S : World → Prop} {m : Nat} {ls : Array Bool} (hr : Region.ready .any ops ls = []) (h : Q .normal a w) : wpAnyH P .any ops Q S m ls a w := wpAnyH_done hr h m

theorem cndT {P : Program} {Q : Exit → Act → World → Prop} {a : Act} {w : World} {c : Operand} {x y : Code} {t : Bool} {n : Nat} {L : List (Nat × Value)} (hE : Env n L a) (hc : ev L c = some (.bool t)) (ht : t = true) (h : x.wp P Q a w) : (Code.cond c x y).wp P Q a w := wp_cond_true (by rw [hE.ev hc, ht]) h

theorem cndF {P : Program} {Q : Exit → Act → World → Prop} {a : Act} {w : World} {c : Operand} {x y : Code} {t : Bool} {n : Nat} {L : List (Nat × Value)} (hE : Env n L a) (hc : ev L c = some (.bool t)) (ht : t = false) (h : y.wp P Q a w) : (Code.cond c x y).wp P Q a w := wp_cond_false (by rw [hE.ev hc, ht]) h

theorem blk_hit {Q : Exit → Act → World → Prop} {a : Act} {w : World} {id : Nat} (h : Q .normal a w) : Exit.inBlock id Q (.exit id) a w := by simpa [Exit.inBlock] using h

theorem lp {P : Program} {Q : Exit → Act → World → Prop} {a : Act} {w : World} {c : Code} (I : Nat → Act → World → Prop) (m : Nat) (h0 : I m a w)
    (round : ∀ m a w, I m a w → c.wp P (Exit.then (fun a' w' => ∃ m', m' < m ∧ I m' a' w') Q) a w) : (Code.loop c).wp P Q a w := wp_loop_ghost I m h0 round

def argL : Nat → List Value → List (Nat × Value)
  | _, [] => []
  | i, v :: vs => (i, v) :: argL (i + 1) vs

theorem lk_argL : ∀ (vs : List Value) (i t : Nat) (v : Value), lk t (argL i vs) = some v → i ≤ t ∧ vs[t - i]? = some v
  | [], _, _, _, h => by cases h
  | u :: vs, i, t, v, h => by
    simp only [argL, lk] at h
    by_cases e : Nat.beq t i = true
    · have e' := Nat.eq_of_beq_eq_true e
      subst e'
      simp at h; subst h
      exact ⟨Nat.le_refl _, by simp⟩
    · have e' : Nat.beq t i = false := Bool.eq_false_iff.2 e
      rw [e'] at h
      obtain ⟨h1, h2⟩ := lk_argL vs (i + 1) t v h
      refine ⟨by omega, ?_⟩
      rw [show t - i = (t - (i + 1)) + 1 from by omega, List.getElem?_cons_succ]; exact h2

theorem enter {P : Program} {f : FuncId} {fn : Func} {c : Code} {vs : List Value} {w : World} {R : Ending → World → Prop} {n : Nat} (hf : P.funcs[f]? = some fn) (hb : fn.body = some c) (hn : fn.ntmps = n) (hl : Nat.ble vs.length n = true)
    (k : ∀ a, Env n (argL 0 vs) a → c.wp P (bodyPost P fn R) a w) : Calls P f vs.toArray w R := by
  refine calls_of_wp hf hb (k _ ?_)
  rw [hn]
  refine Env.start (fun t v h => ?_) (Nat.le_of_ble_eq_true hl)
  have := (lk_argL vs 0 t v h).2
  simpa using this

def resSem (tmps : Array Value) : ResultVar → Sem Value
  | .tmp t => pure (tmps.getD t undef)
  | .cell a t => do loadVar t (← asAddr (tmps.getD a undef))

theorem results_eq (fn : Func) (tmps : Array Value) : results fn tmps = (do let vs ← fn.results.mapM (resSem tmps); pure (if h : vs.size = 1 then vs[0] else .tuple vs)) := by
  unfold results
  have : (fun r => match r with | ResultVar.tmp t => (pure (tmps.getD t undef) : Sem Value) | ResultVar.cell a t => do loadVar t (← asAddr (tmps.getD a undef))) = resSem tmps := by
    funext r; cases r <;> rfl
  rw [← this]; rfl

/-- What one result is. -/
def RV (P : Program) (w : World) (L : List (Nat × Value)) (r : ResultVar) (v : Value) : Prop :=
  ∀ (n : Nat) (a : Act), Env n L a → (resSem a.tmps r).run P w = .ok v w

theorem rv_tmp {P : Program} {w : World} {L : List (Nat × Value)} {t : Nat} {v : Value} (h : lk t L = some v) : RV P w L (.tmp t) v := fun _ _ hE => by
  show (Sem.pure _).run P w = _
  rw [hE.get t v h]; rfl

theorem ret1 {P : Program} {fn : Func} {R : Ending → World → Prop} {a : Act} {w : World} {n : Nat} {L : List (Nat × Value)} {r1 : ResultVar} {v1 : Value} (hE : Env n L a) (hr : fn.results = #[r1]) (h1 : RV P w L r1 v1) (hR : R (.returned v1) w) : bodyPost P fn R .ret a w := by
  refine ⟨hE.defers, v1, ?_, hR⟩
  rw [results_eq, hr]
  have h1 := h1 n a hE
  generalize resSem a.tmps = F at *
  simp [h1]

theorem ret2 {P : Program} {fn : Func} {R : Ending → World → Prop} {a : Act} {w : World} {n : Nat} {L : List (Nat × Value)} {r1 r2 : ResultVar} {v1 v2 : Value} (hE : Env n L a) (hr : fn.results = #[r1, r2]) (h1 : RV P w L r1 v1) (h2 : RV P w L r2 v2) (hR : R (.returned (.tuple #[v1, v2])) w) : bodyPost P fn R .ret a w := by
  refine ⟨hE.defers, _, ?_, hR⟩
  rw [results_eq, hr]
  have h1 := h1 n a hE
  have h2 := h2 n a hE
  generalize resSem a.tmps = F at *
  simp [h1, h2]

theorem nrm {next : Act → World → Prop} {Q : Exit → Act → World → Prop} {a : Act} {w : World} (h : next a w) : Exit.then next Q .normal a w := h

theorem thn_ret {next : Act → World → Prop} {Q : Exit → Act → World → Prop} {a : Act} {w : World} (h : Q .ret a w) : Exit.then next Q .ret a w := h

theorem thn_exit {next : Act → World → Prop} {Q : Exit → Act → World → Prop} {a : Act} {w : World} {id : Nat} (h : Q (.exit id) a w) : Exit.then next Q (.exit id) a w := h

theorem blk_n {Q : Exit → Act → World → Prop} {a : Act} {w : World} {id : Nat} (h : Q .normal a w) : Exit.inBlock id Q .normal a w := h

theorem blk_ret {Q : Exit → Act → World → Prop} {a : Act} {w : World} {id : Nat} (h : Q .ret a w) : Exit.inBlock id Q .ret a w := h

theorem cnd_nb {P : Program} {Q : Exit → Act → World → Prop} {a : Act} {w : World} {c : Operand} {x y : Code} {t : Bool} {n : Nat} {L : List (Nat × Value)} (hE : Env n L a) (hc : ev L c = some (.bool !t)) (ht : t = false → x.wp P Q a w) (hf : t = true → y.wp P Q a w) : (Code.cond c x y).wp P Q a w := wp_cond_split (hE.ev hc) (fun h => ht (by simpa using h)) (fun h => hf (by simpa using h))

theorem cnd_d {P : Program} {Q : Exit → Act → World → Prop} {a : Act} {w : World} {c : Operand} {x y : Code} {p : Prop} [Decidable p] {n : Nat} {L : List (Nat × Value)} (hE : Env n L a) (hc : ev L c = some (.bool (decide p))) (ht : p → x.wp P Q a w) (hf : ¬ p → y.wp P Q a w) : (Code.cond c x y).wp P Q a w := wp_cond_split (hE.ev hc) (fun h => ht (of_decide_eq_true h)) (fun h => hf (of_decide_eq_false h))

theorem cnd_e {P : Program} {Q : Exit → Act → World → Prop} {a : Act} {w : World} {c : Operand} {x y : Code} {m k : Int} {n : Nat} {L : List (Nat × Value)} (hE : Env n L a) (hc : ev L c = some (.bool (m == k))) (ht : m = k → x.wp P Q a w) (hf : ¬ m = k → y.wp P Q a w) : (Code.cond c x y).wp P Q a w := wp_cond_split (hE.ev hc) (fun h => ht (by simpa using h)) (fun h => hf (by simpa using h))

theorem bne_f {m k : Int} (h : m = k) : (m != k) = false := by simp [h]

theorem not_f {b : Bool} (h : b = true) : (!b) = false := by simp [h]

theorem pl {P : Program} {ops : Array Oper} {Q : Exit → Act → World → Prop} {o : Oper} {rest : List Oper} {a : Act} {w : World} (h : ∀ K : Act → World → Prop, (∀ a w, wpList P ops Q rest a w → K a w) → Stp P ops Q o a w K) : wpList P ops Q (o :: rest) a w := wpList_step h

theorem pl_x {P : Program} {S : World → Prop} {ops : Array Oper} {Q : Exit → Act → World → Prop} {o : Oper} {rest : List Oper} {a : Act} {w : World} {n d : Nat} {L : List (Nat × Value)} {v : Value} (hE : Env n L a) (hS : S w) (hw : Region.wanted o (yielded ops a.tmps) = true) (hx : XS P S L o v) (hd : o.dst = some d) (hn : Nat.blt d n = true)
    (k : ∀ a', Env n ((d, v) :: L) a' → wpList P ops Q rest a' w) : wpList P ops Q (o :: rest) a w := pl fun _ hK => st_x hE hS hw hx hd hn fun a' hE' => hK _ _ (k a' hE')

theorem pl_no {P : Program} {ops : Array Oper} {Q : Exit → Act → World → Prop} {o : Oper} {rest : List Oper} {a : Act} {w : World} {n d : Nat} {L : List (Nat × Value)} (hE : Env n L a) (hw : Region.wanted o (yielded ops a.tmps) = false) (hd : o.dst = some d) (hn : Nat.blt d n = true)
    (k : ∀ a', Env n ((d, undef) :: L) a' → wpList P ops Q rest a' w) : wpList P ops Q (o :: rest) a w := pl fun _ hK => st_no hE hw hd hn fun a' hE' => hK _ _ (k a' hE')

theorem x_move {P : Program} {S : World → Prop} {L : List (Nat × Value)} {d : Option Tmp} {x : Operand} {v : Value} {ty : TypeId} {pos : String} {af : Array Edge} {g : Option (Nat × Bool)} (hx : ev L x = some v) : XS P S L ⟨d, .move x, ty, pos, af, g⟩ v := fun _ _ _ hE _ => by simp [execOp, hE.ev hx]

theorem x_assign {P : Program} {S : World → Prop} {L : List (Nat × Value)} {d : Option Tmp} {x : Operand} {v : Value} {ty : TypeId} {pos : String} {af : Array Edge} {g : Option (Nat × Bool)} (hx : ev L x = some v) : XS P S L ⟨d, .assign x, ty, pos, af, g⟩ v := fun _ _ _ hE _ => by simp [execOp, hE.ev hx]

theorem x_pickT {P : Program} {S : World → Prop} {L : List (Nat × Value)} {d : Option Tmp} {c x y : Operand} {b : Bool} {v : Value} {ty : TypeId} {pos : String} {af : Array Edge} {g : Option (Nat × Bool)} (hc : ev L c = some (.bool b)) (hb : b = true) (hx : ev L x = some v) : XS P S L ⟨d, .pick c x y, ty, pos, af, g⟩ v := fun _ _ _ hE _ => by subst hb; simp [execOp, hE.ev hx, hE.ev hc, asBool]

theorem x_pickF {P : Program} {S : World → Prop} {L : List (Nat × Value)} {d : Option Tmp} {c x y : Operand} {b : Bool} {v : Value} {ty : TypeId} {pos : String} {af : Array Edge} {g : Option (Nat × Bool)} (hc : ev L c = some (.bool b)) (hb : b = false) (hy : ev L y = some v) : XS P S L ⟨d, .pick c x y, ty, pos, af, g⟩ v := fun _ _ _ hE _ => by subst hb; simp [execOp, hE.ev hy, hE.ev hc, asBool]

theorem x_not {P : Program} {S : World → Prop} {L : List (Nat × Value)} {d : Option Tmp} {t : TypeId} {x : Operand} {b : Bool} {ty : TypeId} {pos : String} {af : Array Edge} {g : Option (Nat × Bool)} (hx : ev L x = some (.bool b)) : XS P S L ⟨d, .unOp .not t x, ty, pos, af, g⟩ (.bool !b) := fun _ _ _ hE _ => by simp [execOp, hE.ev hx, Op.unary]

theorem x_add {P : Program} {S : World → Prop} {L : List (Nat × Value)} {d : Option Tmp} {t t' : TypeId} {x y : Operand} {m k : Int} {ty : TypeId} {pos : String} {af : Array Edge} {g : Option (Nat × Bool)} (hx : ev L x = some (.int .i64 m)) (hy : ev L y = some (.int .i64 k)) (h : I64 (m + k)) : XS P S L ⟨d, .binOp .add t x y t', ty, pos, af, g⟩ (.int .i64 (m + k)) := fun _ _ _ hE _ => by
  have e : IntKind.i64.wrap (m + k) = m + k := IntWalk.i64_in _ (by unfold I64 at h; omega)
  simp only [execOp, hE.ev hx, hE.ev hy, eqGuard, binOp, Op.intArith, e]; rfl

theorem x_lss {P : Program} {S : World → Prop} {L : List (Nat × Value)} {d : Option Tmp} {t t' : TypeId} {x y : Operand} {q : IntKind} {m k : Int} {ty : TypeId} {pos : String} {af : Array Edge} {g : Option (Nat × Bool)} (hx : ev L x = some (.int q m)) (hy : ev L y = some (.int q k)) : XS P S L ⟨d, .binOp .lss t x y t', ty, pos, af, g⟩ (.bool (decide (m < k))) := fun _ _ _ hE _ => by
  simp [execOp, hE.ev hx, hE.ev hy, eqGuard, binOp, Op.intCmp]

theorem x_eql {P : Program} {S : World → Prop} {L : List (Nat × Value)} {d : Option Tmp} {t t' : TypeId} {x y : Operand} {q : IntKind} {m k : Int} {ty : TypeId} {pos : String} {af : Array Edge} {g : Option (Nat × Bool)} (hx : ev L x = some (.int q m)) (hy : ev L y = some (.int q k)) : XS P S L ⟨d, .binOp .eql t x y t', ty, pos, af, g⟩ (.bool (m == k)) := fun _ _ _ hE _ => by
  simp [execOp, hE.ev hx, hE.ev hy, eqGuard, binOp, Op.intCmp]

theorem x_neq {P : Program} {S : World → Prop} {L : List (Nat × Value)} {d : Option Tmp} {t t' : TypeId} {x y : Operand} {q : IntKind} {m k : Int} {ty : TypeId} {pos : String} {af : Array Edge} {g : Option (Nat × Bool)} (hx : ev L x = some (.int q m)) (hy : ev L y = some (.int q k)) : XS P S L ⟨d, .binOp .neq t x y t', ty, pos, af, g⟩ (.bool (m != k)) := fun _ _ _ hE _ => by
  simp [execOp, hE.ev hx, hE.ev hy, eqGuard, binOp, Op.intCmp]

theorem x_extract {P : Program} {S : World → Prop} {L : List (Nat × Value)} {d : Option Tmp} {x : Operand} {i : Nat} {vs : List Value} {v : Value} {ty : TypeId} {pos : String} {af : Array Edge} {g : Option (Nat × Bool)} (hx : ev L x = some (.tuple vs.toArray)) (hi : vs[i]? = some v) : XS P S L ⟨d, .extract x i, ty, pos, af, g⟩ v := fun _ _ _ hE _ => by
  simp [execOp, hE.ev hx, Instr.extract, hi]

theorem x_len {P : Program} {S : World → Prop} {L : List (Nat × Value)} {d : Option Tmp} {x : Operand} {t e : TypeId} {A : Option Addr} {n c : Nat} {ty : TypeId} {pos : String} {af : Array Edge} {g : Option (Nat × Bool)} (ht : P.underlying t = some (.slice e)) (hx : ev L x = some (.slice A n c)) : XS P S L ⟨d, .call { callee := .builtin .len, args := #[x], argTypes := #[t] }, ty, pos, af, g⟩ (.int .i64 n) := fun _ _ _ hE _ => by
  simp [execOp, resolve, invoke, builtin, Builtin.len_, run_underlying ht, hE.ev hx, goInt]

theorem x_fieldAddr {P : Program} {S : World → Prop} {L : List (Nat × Value)} {d : Option Tmp} {x : Operand} {t : TypeId} {f b o fo : Nat} {ty : TypeId} {pos : String} {af : Array Edge} {g : Option (Nat × Bool)} (hfa : ∀ b o w, (Instr.fieldAt t (.pointer (some ⟨b, o, none⟩)) f).run P w = .ok (.pointer (some ⟨b, o + fo, none⟩)) w) (hx : ev L x = some (.pointer (some ⟨b, o, none⟩))) : XS P S L ⟨d, .fieldAddr t x f, ty, pos, af, g⟩ (.pointer (some ⟨b, o + fo, none⟩)) := fun _ _ w hE _ => by
  simp [execOp, hE.ev hx, hfa]

theorem fieldAt_of {P : Program} {t : TypeId} {fs : Array Field} {f : Nat} {fl : Field} {i : TypeInfo} (hu : P.underlying t = some (.struct fs)) (hf : fs[f]? = some fl) (hi : P.info? fl.type = some i) (hz : i.size ≠ 0) (b o : Nat) (w : World) : (Instr.fieldAt t (.pointer (some ⟨b, o, none⟩)) f).run P w = .ok (.pointer (some ⟨b, o + fl.offset, none⟩)) w := by
  simp [Instr.fieldAt, run_underlying hu, hf, Instr.sureAddr, fieldPlace, sizeOf, typeInfo, hi, hz, add_none]

/-- What is known of a slice type. -/
structure TSl (P : Program) (t e : TypeId) (sz bytes : Nat) : Prop where
  under : P.underlying t = some (.slice e)
  info : ∃ i z, P.info? e = some i ∧ i.zero = some z ∧ i.size = sz ∧ i.bytes = bytes ∧ z.cells.size = sz

theorem x_indexAddr {P : Program} {S : World → Prop} {L : List (Nat × Value)} {d : Option Tmp} {x y : Operand} {t e : TypeId} {sz by_ : Nat} {A : Option Addr} {n c b off k : Nat} {q : IntKind} {m : Int} {ty : TypeId} {pos : String} {af : Array Edge} {g : Option (Nat × Bool)} (ht : TSl P t e sz by_) (hx : ev L x = some (.slice A n c)) (hy : ev L y = some (.int q m)) (hA : A = some ⟨b, off, none⟩) (hm : m = (k : Int)) (hk : k < n) : XS P S L ⟨d, .indexAddr t x y, ty, pos, af, g⟩ (.pointer (some ⟨b, off + k * sz, none⟩)) := fun _ _ w hE _ => by
  obtain ⟨i, z, h1, _, h2, _⟩ := ht.info
  subst hA hm h2
  have h3 : (0 : Int) ≤ (k : Int) ∧ (k : Int) < (n : Int) := by omega
  simp [execOp, hE.ev hx, hE.ev hy, Instr.indexAt, asIntOf, run_underlying ht.under, sizeOf, typeInfo, h1, hk, add_none]

def isAggD : TypeDesc → Bool
  | .struct _ => true
  | .array _ _ => true
  | _ => false

/-- What is known of a variable's type: its cells, what they hold at first. -/
structure TV (P : Program) (t : TypeId) (agg : Bool) (zs : List Value) : Prop where
  under : ∃ d, P.underlying t = some d ∧ isAggD d = agg
  info : ∃ i z, P.info? t = some i ∧ i.zero = some z ∧ i.size = zs.length ∧ z.cells = zs.toArray

theorem TV.isAgg {P : Program} {t : TypeId} {agg : Bool} {zs : List Value} (h : TV P t agg zs) (w : World) : (Go.isAgg t).run P w = .ok agg w := by
  obtain ⟨d, h1, h2⟩ := h.under
  subst h2
  unfold Go.isAgg
  cases d <;> simp [run_underlying h1, isAggD]

theorem TV.load1 {P : Program} {t : TypeId} {zs : List Value} (h : TV P t false zs) {p : Addr} {w : World} {v : Value} (hc : w.cell? p = some v) : (loadVar t p).run P w = .ok v w := by
  unfold loadVar
  simp [h.isAgg w, hc]

theorem run_loadCellsFrom {P : Program} {w : World} {b o : Nat} : ∀ (cs : List Value) (i : Nat) (acc : Array Value), (∀ j v, cs[j]? = some v → w.cell? ⟨b, o + (i + j), none⟩ = some v) → (loadCellsFrom ⟨b, o, none⟩ i cs.length acc).run P w = .ok (acc ++ cs.toArray) w
  | [], i, acc, _ => by simp [loadCellsFrom]
  | v :: cs, i, acc, h => by
    have h0 := h 0 v rfl
    rw [Nat.add_zero] at h0
    have ih := run_loadCellsFrom (P := P) cs (i + 1) (acc.push v) fun j u hu => by
      have := h (j + 1) u (by simpa using hu)
      rw [show i + (j + 1) = i + 1 + j from by omega] at this; exact this
    rw [List.length_cons]
    simp only [loadCellsFrom, Go.load, add_none, Sem.run_bind, Sem.run, h0, Result.andThen_ok, ih]
    simp

theorem TV.loadN {P : Program} {t : TypeId} {zs cs : List Value} (h : TV P t true zs) {b o : Nat} {w : World} (hl : cs.length = zs.length) (hc : ∀ j v, cs[j]? = some v → w.cell? ⟨b, o + j, none⟩ = some v) : (loadVar t ⟨b, o, none⟩).run P w = .ok (.agg cs.toArray) w := by
  obtain ⟨i, z, h1, h2, h3, h4⟩ := h.info
  have hL := run_loadCellsFrom (P := P) (w := w) (b := b) (o := o) cs 0 #[] (fun j v hv => by rw [Nat.zero_add]; exact hc j v hv)
  unfold loadVar loadCells
  simp only [Sem.run_bind, h.isAgg w, Result.andThen_ok, sizeOf, typeInfo]
  simp [h1, h3, ← hl, hL]

theorem x_load1 {P : Program} {S : World → Prop} {L : List (Nat × Value)} {d : Option Tmp} {x : Operand} {t : TypeId} {zs : List Value} {p : Addr} {v : Value} {ty : TypeId} {pos : String} {af : Array Edge} {g : Option (Nat × Bool)} (ht : TV P t false zs) (hx : ev L x = some (.pointer (some p))) (hc : ∀ w, S w → w.cell? p = some v) : XS P S L ⟨d, .load t x, ty, pos, af, g⟩ v := fun _ _ w hE hS => by
  simp [execOp, hE.ev hx, Instr.loadAt, Instr.sureAddr, ht.load1 (hc w hS)]

theorem x_loadN {P : Program} {S : World → Prop} {L : List (Nat × Value)} {d : Option Tmp} {x : Operand} {t : TypeId} {zs cs : List Value} {b o : Nat} {ty : TypeId} {pos : String} {af : Array Edge} {g : Option (Nat × Bool)} (ht : TV P t true zs) (hx : ev L x = some (.pointer (some ⟨b, o, none⟩))) (hl : cs.length = zs.length) (hc : ∀ w, S w → ∀ j v, cs[j]? = some v → w.cell? ⟨b, o + j, none⟩ = some v) : XS P S L ⟨d, .load t x, ty, pos, af, g⟩ (.agg cs.toArray) := fun _ _ w hE hS => by
  simp [execOp, hE.ev hx, Instr.loadAt, Instr.sureAddr, ht.loadN hl (hc w hS)]

/-- What a held block's cell holds. -/
theorem c_blk {M : Nat → Prop} {w0 : World} {rs : List Res} {g : Nat} {t : TypeId} {cs : List Value} {v : Value} {o : Nat} (i : Nat) (hi : rs[i]? = some (rBlk g t cs)) (hv : cs[o]? = some v) : ∀ w, Held M w0 rs w → w.cell? ⟨g, o, none⟩ = some v := fun w h => by
  have h1 : Blk w g t cs.toArray := h.get hi
  rw [h1.cell]; simpa using hv

theorem c_blkN {M : Nat → Prop} {w0 : World} {rs : List Res} {g : Nat} {t : TypeId} {cs : List Value} (i : Nat) (hi : rs[i]? = some (rBlk g t cs)) : ∀ w, Held M w0 rs w → ∀ j v, cs[j]? = some v → w.cell? ⟨g, 0 + j, none⟩ = some v := fun w h j v hv => by
  rw [Nat.zero_add]; exact c_blk i hi hv w h

/-- What a cell held at the start. -/
theorem c_old {w0 : World} {rs : List Res} {b o : Nat} {v : Value} (hc : w0.cell? ⟨b, o, none⟩ = some v) : ∀ w, Held Nob w0 rs w → w.cell? ⟨b, o, none⟩ = some v := fun w h => by
  rw [h.cell0 (lt_of_cell hc) fun h => h]; exact hc

theorem c_oldN {w0 : World} {rs : List Res} {b o : Nat} {cs : List Value} (hc : ∀ j v, cs[j]? = some v → w0.cell? ⟨b, o + j, none⟩ = some v) : ∀ w, Held Nob w0 rs w → ∀ j v, cs[j]? = some v → w.cell? ⟨b, o + j, none⟩ = some v := fun w h j v hv => c_old (hc j v hv) w h

/-- An element of a slice that was there at the start. -/
theorem el_old {w0 : World} {α : Type} {E : Enc α} {A : Option Addr} {c : Nat} {xs : List α} (h : Sl E w0 (Old w0) A c xs) {k : Nat} (hk : k < xs.length) :
    ∃ b off es, A = some ⟨b, off, none⟩ ∧ E.R w0 (Old w0) es xs[k] ∧ ∀ j v, es[j]? = some v → w0.cell? ⟨b, off + k * E.size + j, none⟩ = some v := by
  obtain ⟨b, off, es, h1, _, h2, h3⟩ := h.at hk
  exact ⟨b, off, es, h1, h2, h3⟩

theorem run_alloc {P : Program} {n : Nat} {a : Act} {L : List (Nat × Value)} {w : World} {t : TypeId} {agg : Bool} {zs : List Value} {d : Option Tmp} {ty : TypeId} {pos : String} {af : Array Edge} {g : Option (Nat × Bool)} (hE : Env n L a) (ht : TV P t agg zs) : (execOp a.eval ⟨d, .alloc t, ty, pos, af, g⟩).run P w = .ok (.value (.pointer (some ⟨w.heap.size, 0, none⟩))) (w.alloc (.cells zs.toArray t)) := by
  obtain ⟨i, z, h1, h2, h3, h4⟩ := ht.info
  simp [execOp, Instr.alloc, zeroValue, typeInfo, h1, h2, newVar, newRow, h4]

theorem st_alloc {P : Program} {ops : Array Oper} {Q : Exit → Act → World → Prop} {a : Act} {w : World} {K : Act → World → Prop} {n d : Nat} {L : List (Nat × Value)} {M : Nat → Prop} {w0 : World} {rs : List Res} {t : TypeId} {agg : Bool} {zs : List Value} {ty : TypeId} {pos : String} {af : Array Edge} {g : Option (Nat × Bool)} (hE : Env n L a) (hH : Held M w0 rs w) (ht : TV P t agg zs) (hw : Region.wanted ⟨some d, .alloc t, ty, pos, af, g⟩ (yielded ops a.tmps) = true) (hn : Nat.blt d n = true)
    (k : ∀ q a' w', Env n ((d, .pointer (some ⟨q, 0, none⟩)) :: L) a' → Held M w0 (rBlk q t zs :: rs) w' → K a' w') : Stp P ops Q ⟨some d, .alloc t, ty, pos, af, g⟩ a w K :=
  st_val hE hw (run_alloc hE ht) rfl hn fun a' hE' => k _ a' _ hE' (hH.alloc t zs)

/-- A slice literal. -/
theorem st_lit {P : Program} {ops : Array Oper} {Q : Exit → Act → World → Prop} {o : Oper} {a : Act} {w : World} {K : Act → World → Prop} {n d m : Nat} {L : List (Nat × Value)} {M : Nat → Prop} {w0 : World} {rs : List Res} {e : TypeId} {cs : List Value} (hE : Env n L a) (hH : Held M w0 rs w)
    (hr : (execOp a.eval o).run P w = .ok (.value (.slice (some ⟨w.heap.size, 0, none⟩) m m)) (w.alloc (.cells cs.toArray e))) (hw : Region.wanted o (yielded ops a.tmps) = true) (hd : o.dst = some d) (hn : Nat.blt d n = true)
    (k : ∀ q a' w', Env n ((d, .slice (some ⟨q, 0, none⟩) m m) :: L) a' → Held M w0 (rBlk q e cs :: rs) w' → K a' w') : Stp P ops Q o a w K :=
  st_val hE hw hr hd hn fun a' hE' => k _ a' _ hE' (hH.alloc e cs)

def setL (cs : List Value) (o : Nat) : List Value → List Value
  | [] => cs
  | v :: vs => setL (cs.set o v) (o + 1) vs

theorem run_storeCells {P : Program} {M : Nat → Prop} {w0 : World} {g : Nat} {t : TypeId} {i : Nat} {o : Nat} : ∀ (vs : List Value) (rs : List Res) (cs : List Value) (w : World) (j : Nat), Held M w0 rs w → rs[i]? = some (rBlk g t cs) → o + j + vs.length ≤ cs.length → (∀ v ∈ vs, v.oneCell' = true) →
    ∃ w', (storeCells ⟨g, o, none⟩ vs j).run P w = .ok () w' ∧ Held M w0 (rs.set i (rBlk g t (setL cs (o + j) vs))) w'
  | [], rs, cs, w, j, h, hi, _, _ => ⟨w, by simp [storeCells], by
      have : rs.set i (rBlk g t (setL cs (o + j) [])) = rs := by
        apply List.ext_getElem?
        intro m
        by_cases e : i = m
        · subst e; rw [List.getElem?_set_self (List.getElem?_eq_some_iff.1 hi).1, hi]; rfl
        · rw [List.getElem?_set_ne e]
      rw [this]; exact h⟩
  | v :: vs, rs, cs, w, j, h, hi, hl, h1 => by
    rw [List.length_cons] at hl
    have hlt : o + j < cs.length := by omega
    have hB : Blk w g t cs.toArray := h.get hi
    have hc : w.cell? ⟨g, o + j, none⟩ = some cs[o + j] := by rw [hB.cell]; simp [hlt]
    have hf : w.frozen? ⟨g, o + j, none⟩ = false := hB.frozen _
    have h2 := h.set hi (o + j) v
    have hi' : (rs.set i (rBlk g t (cs.set (o + j) v)))[i]? = some (rBlk g t (cs.set (o + j) v)) := List.getElem?_set_self (List.getElem?_eq_some_iff.1 hi).1
    obtain ⟨w', e1, e2⟩ := run_storeCells (P := P) (o := o) vs _ (cs.set (o + j) v) _ (j + 1) h2 hi' (by rw [List.length_set]; omega) (fun u hu => h1 u (by simp [hu]))
    refine ⟨w', ?_, ?_⟩
    · have hv := h1 v (by simp)
      have hs : (Go.store ⟨g, o + j, none⟩ v).run P w = .ok () (w.setCell ⟨g, o + j, none⟩ v) := by
        cases v <;> first | (simp [Value.oneCell'] at hv; done) | simp [Go.store, Sem.run, hc, hf]
      simp only [storeCells, add_none, Sem.run_bind, hs, Result.andThen_ok, e1]
    · rw [List.set_set] at e2
      exact e2

theorem run_storeAt {P : Program} {M : Nat → Prop} {w0 : World} {g : Nat} {t tb : TypeId} {i o : Nat} {vs : List Value} {rs : List Res} {cs : List Value} {w : World} {v : Value} {agg : Bool} {zs : List Value} (ht : TV P t agg zs) (hv : v.cells = vs.toArray) (hz : vs.length = zs.length) (h : Held M w0 rs w) (hi : rs[i]? = some (rBlk g tb cs)) (hl : o + vs.length ≤ cs.length) (h1 : ∀ v ∈ vs, v.oneCell' = true) :
    ∃ w', (Instr.storeAt t (.pointer (some ⟨g, o, none⟩)) v).run P w = .ok () w' ∧ Held M w0 (rs.set i (rBlk g tb (setL cs o vs))) w' := by
  obtain ⟨ii, z, e1, _, e3, _⟩ := ht.info
  obtain ⟨w', h2, h3⟩ := run_storeCells (P := P) (o := o) vs rs cs w 0 h hi (by omega) h1
  refine ⟨w', ?_, h3⟩
  simp only [Instr.storeAt, Instr.sureAddr, storeVar, sizeOf, typeInfo, Sem.run_bind, Sem.run_pure, Result.andThen_ok, run_program, e1]
  simp [hv, h2, e3, hz]

/-- A store into a held block. -/
theorem st_store {P : Program} {ops : Array Oper} {Q : Exit → Act → World → Prop} {a : Act} {w : World} {K : Act → World → Prop} {n : Nat} {L : List (Nat × Value)} {M : Nat → Prop} {w0 : World} {rs : List Res} {t tb : TypeId} {agg : Bool} {zs : List Value} {x y : Operand} {g o : Nat} {v : Value} {vs cs : List Value} {ty : TypeId} {pos : String} {af : Array Edge} {gd : Option (Nat × Bool)} (i : Nat) (hE : Env n L a) (hH : Held M w0 rs w) (ht : TV P t agg zs) (hx : ev L x = some (.pointer (some ⟨g, o, none⟩))) (hy : ev L y = some v) (hv : v.cells = vs.toArray) (hz : vs.length = zs.length) (hi : rs[i]? = some (rBlk g tb cs)) (hl : Nat.ble (o + vs.length) cs.length = true) (h1 : ∀ v ∈ vs, v.oneCell' = true) (hw : Region.wanted ⟨none, .store t x y, ty, pos, af, gd⟩ (yielded ops a.tmps) = true)
    (k : ∀ w', Held M w0 (rs.set i (rBlk g tb (setL cs o vs))) w' → K a w') : Stp P ops Q ⟨none, .store t x y, ty, pos, af, gd⟩ a w K := by
  obtain ⟨w', h2, h3⟩ := run_storeAt (P := P) ht hv hz hH hi (Nat.le_of_ble_eq_true hl) h1
  refine st_skip hw ?_ rfl (k w' h3)
  simp only [execOp, hE.ev hx, hE.ev hy, Sem.run_bind, h2, Result.andThen_ok, Sem.run_pure]

/-- A row of elements: the cells of each, and the blocks that each owns. -/
def Vec {α : Type} (E : Enc α) (t : TypeId) (w : World) (S : Nat → Prop) (v : Value) (xs : List α) : Prop :=
  ∃ (css : List (List Value)) (T : Nat → Nat → Prop), css.length = xs.length ∧ w.ownsRow 0 t E.size v xs.length css.flatten ∧ (∀ b, v.ownBlock = some b → S b) ∧ (∀ i b, T i b → S b ∧ v.ownBlock ≠ some b) ∧ (∀ i j b, T i b → T j b → i = j) ∧
    ∀ (i : Nat) (x : α), xs[i]? = some x → ∃ es, css[i]? = some es ∧ E.O w (T i) es x

theorem ownsRow_keep {w w' : World} {base : Nat} {t : TypeId} {size : Nat} {v : Value} {n : Nat} {xs : List Value} (h : w.ownsRow base t size v n xs) (hk : ∀ b, v.ownBlock = some b → w'.heap[b]? = w.heap[b]?) : w'.ownsRow base t size v n xs := by
  refine ⟨h.1, ?_⟩
  rcases h.2 with h2 | ⟨g, cap, cur, rfl, hg, hh, r⟩
  · exact .inl h2
  · exact .inr ⟨g, cap, cur, rfl, hg, (hk g rfl).trans hh, r⟩

theorem Vec.keep {α : Type} {E : Enc α} {t : TypeId} {w w' : World} {S : Nat → Prop} {v : Value} {xs : List α} (h : Vec E t w S v xs) (hk : ∀ b, S b → w'.heap[b]? = w.heap[b]?) : Vec E t w' S v xs := by
  obtain ⟨css, T, h1, h2, h3, h4, h5, h6⟩ := h
  refine ⟨css, T, h1, ownsRow_keep h2 fun b hb => hk b (h3 b hb), h3, h4, h5, fun i x hx => ?_⟩
  obtain ⟨es, h7, h8⟩ := h6 i x hx
  exact ⟨es, h7, E.okeep h8 fun b hb => hk b (h4 i b hb).1⟩

def rVec {α : Type} (E : Enc α) (t : TypeId) (S : Nat → Prop) (A : Option Addr) (c : Nat) (xs : List α) : Res :=
  ⟨S, fun w => Vec E t w S (.slice A xs.length c) xs, fun _ _ h hv => hv.keep h⟩

theorem Held.vecNil {M : Nat → Prop} {w0 : World} {rs : List Res} {w : World} (h : Held M w0 rs w) {α : Type} (E : Enc α) (t : TypeId) : Held M w0 (rVec E t Nob none 0 [] :: rs) w :=
  h.new (Below.refl _ _) (rVec E t Nob none 0 []) ⟨[], fun _ _ => False, rfl, World.ownsRow_nil _ _ _ _, (fun b hb => by cases hb), fun _ _ h => h.elim, fun _ _ _ h => h.elim, fun i x hx => by simp at hx⟩ fun _ h => h.elim

/-- A block with the cells of flat elements is a row of them. -/
theorem Held.vecFlat {M : Nat → Prop} {w0 : World} {g : Nat} {t : TypeId} {rs : List Res} {w : World} {α : Type} {E : Enc α} {xs : List α} {css : List (List Value)} (h : Held M w0 (rBlk g t css.flatten :: rs) w) (hl : css.length = xs.length) (hm : xs.length ≤ maxLen) (hO : ∀ (i : Nat) (x : α), xs[i]? = some x → ∃ es, css[i]? = some es ∧ ∀ W, E.O W Nob es x) : Held M w0 (rVec E t (fun b => b = g) (some ⟨g, 0, none⟩) xs.length xs :: rs) w := by
  have hfl : css.flatten.length = xs.length * E.size := by
    have key : ∀ (css : List (List Value)) (xs : List α), css.length = xs.length → (∀ (i : Nat) (x : α), xs[i]? = some x → ∃ es, css[i]? = some es ∧ ∀ W, E.O W Nob es x) → css.flatten.length = xs.length * E.size := by
      intro css
      induction css with
      | nil => intro xs hl _; simp at hl; simp [hl.symm]
      | cons e css ih =>
        intro xs hl hO
        rcases xs with _ | ⟨x, xs⟩
        · simp at hl
        · obtain ⟨es, h1, h2⟩ := hO 0 x rfl
          simp at h1; subst h1
          rw [List.flatten_cons, List.length_append, ih xs (by simpa using hl) (fun i y hy => by simpa using hO (i + 1) y (by simpa using hy)), E.len (E.read (h2 default)), List.length_cons, Nat.succ_mul]; omega
    exact key css xs hl hO
  refine h.turn _ (fun hB => ⟨css, fun _ _ => False, hl, ⟨hfl, .inr ⟨g, xs.length, css.flatten.toArray, rfl, Nat.zero_le _, hB, Nat.le_refl _, hm, by simpa using hfl, ?_⟩⟩, (fun b hb => by simpa [Value.ownBlock] using hb.symm), fun _ _ h => h.elim, fun _ _ _ h => h.elim, fun i x hx => ?_⟩) fun _ hb => hb
  · rw [← hfl]; exact List.take_length
  · obtain ⟨es, h1, h2⟩ := hO i x hx
    exact ⟨es, h1, E.omore (h2 w) fun _ h => h.elim⟩

theorem flatten_at (s : Nat) : ∀ (css : List (List Value)), (∀ es ∈ css, es.length = s) → ∀ (i : Nat) (es : List Value), css[i]? = some es → ∀ j, j < s → css.flatten[i * s + j]? = es[j]?
  | [], _, i, es, hx, _, _ => by simp at hx
  | e :: css, h, 0, es, hx, j, hj => by
    simp at hx; subst hx
    rw [List.flatten_cons, Nat.zero_mul, Nat.zero_add, List.getElem?_append_left (by rw [h e (by simp)]; exact hj)]
  | e :: css, h, i + 1, es, hx, j, hj => by
    have hy := h e (by simp)
    rw [List.flatten_cons, Nat.succ_mul, List.getElem?_append_right (by rw [hy]; omega), hy, show i * s + s + j - s = i * s + j from by omega]
    exact flatten_at s css (fun z hz => h z (by simp [hz])) i es (by simpa using hx) j hj

theorem Vec.so {α : Type} {E : Enc α} {t : TypeId} {w : World} {S : Nat → Prop} {A : Option Addr} {c : Nat} {xs : List α} (h : Vec E t w S (.slice A xs.length c) xs) : So E w S A c xs := by
  obtain ⟨css, T, h1, h2, h3, h4, h5, h6⟩ := h
  rcases h2.2 with ⟨he, hn⟩ | ⟨g, cap, cur, he, hg, hh, hnc, hcm, hcs, htk⟩
  · have hx : xs = [] := List.eq_nil_of_length_eq_zero hn
    subst hx
    simp only [Value.slice.injEq] at he
    obtain ⟨rfl, _, rfl⟩ := he
    exact So.nil (Nat.zero_le _)
  · simp only [Value.slice.injEq, true_and] at he
    obtain ⟨rfl, rfl⟩ := he
    refine ⟨hnc, hcm, fun _ => ⟨g, 0, t, cur, T, rfl, h3 g rfl, hh, fun i k hk => ⟨(h4 i k hk).1, fun e => (h4 i k hk).2 (by rw [e]; rfl)⟩, h5, fun i x hx => ?_⟩⟩
    obtain ⟨es, h7, h8⟩ := h6 i x hx
    refine ⟨es, h8, fun j u hu => ?_⟩
    have hi := (List.getElem?_eq_some_iff.1 hx).1
    have hj := (List.getElem?_eq_some_iff.1 hu).1
    have hl : ∀ es ∈ css, es.length = E.size := fun es hes => by
      obtain ⟨m, hm, rfl⟩ := List.getElem_of_mem hes
      obtain ⟨es', h9, h10⟩ := h6 m xs[m] (List.getElem?_eq_getElem (by omega))
      rw [List.getElem?_eq_getElem hm] at h9
      simp at h9; rw [h9]; exact E.len (E.read h10)
    rw [hl es (List.mem_of_getElem? h7)] at hj
    have h9 := flatten_at E.size css hl i es h7 j hj
    rw [← htk] at h9
    have hlt : i * E.size + j < xs.length * E.size := by
      have : (i + 1) * E.size ≤ xs.length * E.size := Nat.mul_le_mul_right _ (by omega)
      rw [Nat.succ_mul] at this; omega
    rw [List.getElem?_take_of_lt hlt, Array.getElem?_toList] at h9
    rw [Nat.zero_add, h9]; exact hu

theorem Held.vecSo {M : Nat → Prop} {w0 : World} {rs : List Res} {w : World} {α : Type} {E : Enc α} {t : TypeId} {S : Nat → Prop} {A : Option Addr} {c : Nat} {xs : List α} (h : Held M w0 (rVec E t S A c xs :: rs) w) : Held M w0 (rSo E S A c xs :: rs) w :=
  h.turn _ (fun hv => oSl (Vec.so hv)) fun _ hb => hb

theorem Held.vecSl {M : Nat → Prop} {w0 : World} {rs : List Res} {w : World} {α : Type} {E : Enc α} {t : TypeId} {S : Nat → Prop} {A : Option Addr} {c : Nat} {xs : List α} (h : Held M w0 rs w) {i : Nat} (hi : rs[i]? = some (rVec E t S A c xs)) : Sl E w (Old w) A c xs :=
  (Vec.so (h.get hi)).sl.more fun b hb => (h.rng _ (List.mem_of_getElem? hi) b hb).2

theorem vec_shape {w : World} {base : Nat} {t : TypeId} {size : Nat} {v : Value} {n : Nat} {xs : List Value} (h : w.ownsRow base t size v n xs) : ∃ A c, v = .slice A n c := by
  rcases h.2 with ⟨rfl, rfl⟩ | ⟨g, cap, cur, rfl, _⟩
  · exact ⟨none, 0, rfl⟩
  · exact ⟨_, cap, rfl⟩

theorem grown_chg {w w' : World} {row : Option Nat} (h : w.grownBy w' row) : Chg (fun b => row = some b) w w' := ⟨h.os, h.tape, h.output, h.size, fun k hk hS => h.block k hk fun e => hS e.symm⟩

/-- Elements laid at ad, one after another, are appended; each with the blocks U that it owns. -/
theorem run_append_vec {P : Program} {M : Nat → Prop} {w0 : World} {rs : List Res} {w : World} {α : Type} {E : Enc α} {t e : TypeId} {bytes : Nat} {S U : Nat → Prop} {A : Option Addr} {c : Nat} {xs : List α} (he : TSl P t e E.size bytes) (ty : TypeId)
    (h : Held M w0 (rVec E e S A c xs :: rs) w) (ad : Addr) (ys : List α) (c2 : Nat) (dss : List (List Value)) (hl : dss.length = ys.length) (hcell : ∀ j u, dss.flatten[j]? = some u → w.cell? (ad.add j) = some u) (h1 : ∀ es ∈ dss, ∀ u ∈ es, u.oneCell' = true)
    (V : Nat → Nat → Prop) (hV : ∀ i b, V i b → U b) (hVd : ∀ i j b, V i b → V j b → i = j) (hO : ∀ (i : Nat) (y : α), ys[i]? = some y → ∃ es, dss[i]? = some es ∧ E.O w (V i) es y) (hU : ∀ b, U b → ¬ S b ∧ b < w.heap.size)
    (h63 : xs.length + ys.length ≤ maxLen) (hbytes : (xs.length + ys.length) * bytes ≤ 140737488355328) :
    ∃ A' c' S' w', (Builtin.append_ #[t, t] ty #[.slice A xs.length c, .slice (some ad) ys.length c2]).run P w = .ok (.slice A' (xs ++ ys).length c') w' ∧ Vec E e w' S' (.slice A' (xs ++ ys).length c') (xs ++ ys) ∧ Chg S w w' ∧ (∀ b, S' b → S b ∨ U b ∨ (w.heap.size ≤ b ∧ b < w'.heap.size)) := by
  obtain ⟨i, z, hi, hz0, hz1, hz2, hz3⟩ := he.info
  obtain ⟨css, T, k1, k2, k3, k4, k5, k6⟩ := h.ok _ (List.mem_cons_self)
  have hrng := h.rng _ (List.mem_cons_self)
  have hfl : dss.flatten.length = ys.length * E.size := by
    have key : ∀ (dss : List (List Value)) (ys : List α), dss.length = ys.length → (∀ (i : Nat) (y : α), ys[i]? = some y → ∃ es : List Value, dss[i]? = some es ∧ es.length = E.size) → dss.flatten.length = ys.length * E.size := by
      intro dss
      induction dss with
      | nil => intro ys hl _; simp at hl; simp [hl.symm]
      | cons e dss ih =>
        intro ys hl hO
        rcases ys with _ | ⟨y, ys⟩
        · simp at hl
        · obtain ⟨es, h1, h2⟩ := hO 0 y rfl
          simp at h1; subst h1
          rw [List.flatten_cons, List.length_append, ih ys (by simpa using hl) (fun i y hy => by simpa using hO (i + 1) y (by simpa using hy)), h2, List.length_cons, Nat.succ_mul]; omega
    exact key dss ys hl fun i y hy => by obtain ⟨es, h1, h2⟩ := hO i y hy; exact ⟨es, h1, E.len (E.read h2)⟩
  obtain ⟨v', w', e1, e2, e3, e4, e5⟩ := run_append_own_at (P := P) w 0 t ty e i z E.size bytes he.under hi hz0 hz1 hz2 hz3 E.pos _ xs.length css.flatten k2 ad ys.length c2 dss.flatten hfl hcell (fun u hu => by obtain ⟨es, h2, h3⟩ := List.mem_flatten.1 hu; exact h1 es h2 u h3) h63 hbytes (Nat.zero_le _)
  obtain ⟨A', c', rfl⟩ := vec_shape e2
  have hch := grown_chg e3
  refine ⟨A', c', fun b => S b ∨ U b ∨ (w.heap.size ≤ b ∧ b < w'.heap.size), w', by rw [List.length_append]; exact e1, ?_, hch.mono (fun b hb => k3 b hb), fun b hb => hb⟩
  have hnew : ∀ b, (Value.slice A' (xs.length + ys.length) c').ownBlock = some b → (Value.slice A xs.length c).ownBlock = some b ∨ (w.heap.size ≤ b ∧ b < w'.heap.size) := by
    intro b hb
    rcases e5 with e5 | e5
    · left; rw [← e5]; exact hb
    · right
      have hb2 : b = w.heap.size := by rw [e5] at hb; exact (Option.some.inj hb).symm
      rcases e2.2 with ⟨q, _⟩ | ⟨g, cap, cur, q, _, hh, _⟩
      · rw [q] at hb; cases hb
      · rw [q] at hb
        have : g = b := by simpa [Value.ownBlock] using hb
        subst this
        exact ⟨by omega, Blk.lt (t := e) (cur := cur) hh⟩
  rw [List.length_append]
  refine ⟨css ++ dss, fun i b => (i < xs.length ∧ T i b) ∨ (xs.length ≤ i ∧ V (i - xs.length) b), by simp [k1, hl], by rw [List.flatten_append, List.length_append]; exact e2, fun b hb => ?_, fun i b hb => ?_, fun i j b hi hj => ?_, fun m x hx => ?_⟩
  · rcases hnew b hb with hb | hb
    · exact .inl (k3 b hb)
    · exact .inr (.inr hb)
  · rcases hb with ⟨_, hb⟩ | ⟨_, hb⟩
    · refine ⟨.inl (k4 i b hb).1, fun hb' => ?_⟩
      rcases hnew b hb' with q | q
      · exact (k4 i b hb).2 q
      · have := (hrng b (k4 i b hb).1).2; omega
    · refine ⟨.inr (.inl (hV _ b hb)), fun hb' => ?_⟩
      rcases hnew b hb' with q | q
      · exact (hU b (hV _ b hb)).1 (k3 b q)
      · have := (hU b (hV _ b hb)).2; omega
  · rcases hi with ⟨hi1, hi⟩ | ⟨hi1, hi⟩ <;> rcases hj with ⟨hj1, hj⟩ | ⟨hj1, hj⟩
    · exact k5 i j b hi hj
    · exact absurd (k4 i b hi).1 (hU b (hV _ b hj)).1
    · exact absurd (k4 j b hj).1 (hU b (hV _ b hi)).1
    · have := hVd _ _ b hi hj; omega
  · by_cases hm : m < xs.length
    · rw [List.getElem?_append_left hm] at hx
      obtain ⟨es, h2, h3⟩ := k6 m x hx
      refine ⟨es, by rw [List.getElem?_append_left (by omega)]; exact h2, E.omore (E.okeep h3 fun b hb => ?_) fun b hb => .inl ⟨hm, hb⟩⟩
      exact hch.block b (hrng b (k4 m b hb).1).2 fun q => (k4 m b hb).2 q
    · rw [List.getElem?_append_right (by omega)] at hx
      obtain ⟨es, h2, h3⟩ := hO _ x hx
      refine ⟨es, by rw [List.getElem?_append_right (by omega), k1]; exact h2, E.omore (E.okeep h3 fun b hb => ?_) fun b hb => .inr ⟨by omega, hb⟩⟩
      exact hch.block b (hU b (hV _ b hb)).2 fun q => (hU b (hV _ b hb)).1 (k3 b q)

theorem Held.mut2 {M : Nat → Prop} {w0 : World} {r s : Res} {rs : List Res} {w w' : World} (h : Held M w0 (r :: s :: rs) w) (hc : Chg r.S w w') (r' : Res) (hr : r'.φ w') (hS : ∀ b, r'.S b → r.S b ∨ s.S b ∨ (w.heap.size ≤ b ∧ b < w'.heap.size)) : Held M w0 (r' :: rs) w' := by
  have h1 : Held M w0 (⟨fun b => r.S b ∨ s.S b, fun _ => True, fun _ _ _ _ => trivial⟩ :: rs) w := h.join ⟨fun b => r.S b ∨ s.S b, fun _ => True, fun _ _ _ _ => trivial⟩ (fun _ _ _ => trivial) fun _ hb => hb
  have h2 := h1.mut (i := 0) rfl (hc.mono fun b hb => .inl hb) r' hr fun b hb => by
    rcases hS b hb with q | q | q
    · exact .inl (.inl q)
    · exact .inl (.inr q)
    · exact .inr q
  exact h2

/-- One element that owns memory is appended: the row, the element's block, the element. -/
theorem st_app1 {P : Program} {ops : Array Oper} {Q : Exit → Act → World → Prop} {a : Act} {w : World} {K : Act → World → Prop} {n d : Nat} {L : List (Nat × Value)} {M : Nat → Prop} {w0 : World} {rs rs' : List Res} {α : Type} {E : Enc α} {t e : TypeId} {bytes : Nat} {S U : Nat → Prop} {A : Option Addr} {c g : Nat} {xs : List α} {es : List Value} {y : α} {x1 x2 : Operand} {ty : TypeId} {pos : String} {af : Array Edge} {gd : Option (Nat × Bool)} (hE : Env n L a) (hH : Held M w0 rs w) (he : TSl P t e E.size bytes) (is : List Nat) (hn1 : is.Nodup) (his : pick rs is = some (rVec E e S A c xs :: rO E U es y :: rBlk g e es :: rs'))
    (hx1 : ev L x1 = some (.slice A xs.length c)) (hx2 : ev L x2 = some (.slice (some ⟨g, 0, none⟩) 1 1)) (h1 : ∀ u ∈ es, u.oneCell' = true) (h63 : xs.length + 1 ≤ maxLen) (hbytes : (xs.length + 1) * bytes ≤ 140737488355328) (hw : Region.wanted ⟨some d, .call { callee := .builtin .append, args := #[x1, x2], argTypes := #[t, t] }, ty, pos, af, gd⟩ (yielded ops a.tmps) = true) (hn : Nat.blt d n = true)
    (k : ∀ A' c' S' a' w', Env n ((d, .slice A' (xs ++ [y]).length c') :: L) a' → Held M w0 (rVec E e S' A' c' (xs ++ [y]) :: rBlk g e es :: rs') w' → K a' w') : Stp P ops Q ⟨some d, .call { callee := .builtin .append, args := #[x1, x2], argTypes := #[t, t] }, ty, pos, af, gd⟩ a w K := by
  have h := hH.sel is hn1 his
  have hB : Blk w g e es.toArray := h.ok (rBlk g e es) (by simp)
  have hO : E.O w U es y := h.ok (rO E U es y) (by simp)
  have hsep := List.pairwise_cons.1 h.sep
  obtain ⟨A', c', S', w', e1, e2, e3, e4⟩ := run_append_vec (U := U) he ty h ⟨g, 0, none⟩ [y] 1 [es] rfl (fun j u hu => by rw [add_none, Nat.zero_add, hB.cell]; simpa using hu) (by simpa using h1)
    (fun i b => i = 0 ∧ U b) (fun i b hb => hb.2) (fun i j b hi hj => by rw [hi.1, hj.1]) (fun i z hz => by
      rcases i with _ | i
      · simp at hz; subst hz; exact ⟨es, rfl, E.omore hO fun b hb => ⟨rfl, hb⟩⟩
      · simp at hz) (fun b hb => ⟨fun hb' => hsep.1 (rO E U es y) (by simp) b hb' hb, (h.rng (rO E U es y) (by simp) b hb).2⟩) h63 hbytes
  have h2 : Held M w0 (rVec E e S' A' c' (xs ++ [y]) :: rBlk g e es :: rs') w' := h.mut2 e3 (rVec E e S' A' c' (xs ++ [y])) e2 e4
  refine st_val hE hw ?_ rfl hn fun a' hE' => k A' c' S' a' w' hE' h2
  simp only [List.length_singleton] at e1
  simp only [execOp, resolve, invoke, builtin, Sem.run_bind, Sem.run_pure, Result.andThen_ok, List.map_toArray, List.map_cons, List.map_nil, hE.ev hx1, hE.ev hx2, e1]

abbrev tRewrite : Type := (List Int) × (List Int)

abbrev eRewrite : Enc tRewrite := (ePr (eSl eInt) (eSl eInt))

theorem shape_Rewrite {w : World} {S : Nat → Prop} {es : List Value} {x : tRewrite} (h : eRewrite.R w S es x) : ∃ A0 c0 A1 c1, es = [.slice A0 x.1.length c0, .slice A1 x.2.length c1] ∧ Sl eInt w S A0 c0 x.1 ∧ Sl eInt w S A1 c1 x.2 := by
  obtain ⟨_, _, rfl, ⟨A0, c0, rfl, h0⟩, ⟨A1, c1, rfl, h1⟩⟩ := h
  exact ⟨A0, c0, A1, c1, rfl, h0, h1⟩

theorem any_hit {α : Type} {p : α → Bool} {xs : List α} {k : Nat} (hk : k < xs.length) (h : p xs[k] = true) : xs.any p = true :=
  List.any_eq_true.2 ⟨_, List.getElem_mem hk, h⟩

theorem any_step {α : Type} {p : α → Bool} {xs : List α} {k : Nat} (hk : k < xs.length) (h0 : (xs.take k).any p = false) (h : p xs[k] = false) : (xs.take (k + 1)).any p = false := by
  rw [List.take_succ_eq_append_getElem hk, List.any_append, h0]; simp [h]

/-- Equality of two lists, element by element. -/
def eqL {α : Type} (p : α → α → Bool) : List α → List α → Bool
  | [], [] => true
  | x :: xs, y :: ys => p x y && eqL p xs ys
  | _, _ => false

theorem eqL_refl {α : Type} {p : α → α → Bool} (hp : ∀ x, p x x = true) : ∀ xs : List α, eqL p xs xs = true
  | [] => rfl
  | x :: xs => by rw [eqL, hp, eqL_refl hp xs]; rfl

theorem eqL_len {α : Type} {p : α → α → Bool} : ∀ (xs ys : List α), xs.length ≠ ys.length → eqL p xs ys = false
  | [], [], h => absurd rfl h
  | [], _ :: _, _ => rfl
  | _ :: _, [], _ => rfl
  | x :: xs, y :: ys, h => by rw [eqL, eqL_len xs ys (by simpa using h)]; simp

theorem eqL_get {α : Type} {p : α → α → Bool} : ∀ (xs ys : List α) (k : Nat) (h1 : k < xs.length) (h2 : k < ys.length), p xs[k] ys[k] = false → eqL p xs ys = false
  | x :: xs, y :: ys, 0, _, _, h => by rw [eqL]; simp at h; rw [h]; rfl
  | x :: xs, y :: ys, k + 1, h1, h2, h => by rw [eqL, eqL_get xs ys k (by simpa using h1) (by simpa using h2) (by simpa using h)]; simp

theorem eqL_all {α : Type} {p : α → α → Bool} : ∀ (xs ys : List α), xs.length = ys.length → (∀ k (h1 : k < xs.length) (h2 : k < ys.length), p xs[k] ys[k] = true) → eqL p xs ys = true
  | [], [], _, _ => rfl
  | x :: xs, y :: ys, hl, h => by
    have e : p x y = true := h 0 (Nat.zero_lt_succ _) (Nat.zero_lt_succ _)
    have e' : eqL p xs ys = true := eqL_all xs ys (by simpa using hl) fun k h1 h2 => h (k + 1) (Nat.succ_lt_succ h1) (Nat.succ_lt_succ h2)
    rw [eqL, e, e']; rfl
  | [], _ :: _, hl, _ => by simp at hl
  | _ :: _, [], hl, _ => by simp at hl

theorem len_beq (n : Nat) : ((n : Int) == 0) = decide (n = 0) := by
  rw [Bool.eq_iff_iff, beq_iff_eq, decide_eq_true_iff]; omega

theorem ret_bool {a b : Bool} (h : a = b) : Ending.returned (.bool a) = .returned (.bool b) := by rw [h]

theorem ret_int {k : IntKind} {a b : Int} (h : a = b) : Ending.returned (.int k a) = .returned (.int k b) := by rw [h]

def withinB (n lo hi : Int) : Bool := decide (lo ≤ n) && decide (n ≤ hi)

theorem withinB_true {n lo hi : Int} : withinB n lo hi = true ↔ lo ≤ n ∧ n ≤ hi := by
  unfold withinB; simp

theorem impl_within (n lo hi : Int) (w : World) :
    Calls Try.prog 69 #[.int .i64 n, .int .i64 lo, .int .i64 hi] w fun e w' => e = .returned (.bool (withinB n lo hi)) ∧ w = w' := by
  unfold withinB
  by_cases h1 : lo ≤ n
  · go_enter Try.func69, Try.ntmps69
    go_wp2
    go_ret
    exact ⟨by first | (simp; done) | simp [h1], rfl⟩
  · have h2 : decide (lo ≤ n) = false := by simpa using h1
    go_enter Try.func69, Try.ntmps69
    go_wp2
    go_ret
    exact ⟨by first | (simp; done) | simp [h2], rfl⟩

theorem spec_l00In (n lo hi : Int) (w : World) :
    Calls Try.prog 67 #[.int .i64 n, .int .i64 lo, .int .i64 hi] w fun e w' => e = .returned (.bool (withinB n lo hi)) ∧ w = w' := by
  unfold withinB
  by_cases h1 : lo ≤ n
  · go_enter Try.func67, Try.ntmps67
    go_wp2
    go_ret
    exact ⟨by first | (simp; done) | simp [h1], rfl⟩
  · have h2 : decide (lo ≤ n) = false := by simpa using h1
    go_enter Try.func67, Try.ntmps67
    go_wp2
    go_ret
    exact ⟨by first | (simp; done) | simp [h2], rfl⟩

theorem impl_size_Rewrite (a : Option Addr) (n c : Nat) (w : World) :
    Calls Try.prog 144 #[.slice a n c] w fun e w' => e = .returned (.int .i64 n) ∧ w = w' := by
  go_enter Try.func144, Try.ntmps144
  go_wp2
  go_ret
  exact ⟨rfl, rfl⟩

set_option maxHeartbeats 400000 in
theorem IndexFunc_Int64S (p : (List Int) → Bool) (g : Nat) (lb : Array Value) (A : Option Addr) (c : Nat) (xs : List (List Int)) (w : World) (h : Sl (eSl eInt) w (Old w) A c xs)
    (eg : ∀ args w, (callFunc g args).run Try.prog w = .ok (.enter g args) w) (hp : ∀ W x es, x ∈ xs → Below w.heap.size w W → (eSl eInt).R W (Old W) es x → Calls Try.prog g (#[es[0]!] ++ lb) W fun e w' => e = .returned (.bool (p x)) ∧ Below W.heap.size W w') :
    Calls Try.prog 194 #[.slice A xs.length c, .func (.func g) #[] lb] w fun e w' => (∃ r : Int, e = .returned (.int .i64 r) ∧ decide (0 ≤ r) = xs.any p) ∧ Below w.heap.size w w' := by
  have hlen := h.len
  have H := Lib.hid h; clear h
  have HP := Lib.hid hp; clear hp
  go_enter Try.func194, Try.ntmps194
  go_wp2
  go_loopg [5, 8] xs.length (fun gg _ s8 wr => ∃ k : Nat, k ≤ xs.length ∧ xs.length - k ≤ gg ∧ s8 = .int .i64 k ∧ Hid (Below w.heap.size w wr) ∧ Hid ((xs.take k).any p = false))
  case atStart => exact ⟨0, Nat.zero_le _, by omega, rfl, Below.refl _ w, rfl⟩
  case round =>
    obtain ⟨k, hk, hg, rfl, BW, HN⟩ := hrel
    by_cases hlt : k < xs.length
    · have hltz : (k : Int) < (xs.length : Int) := by omega
      obtain ⟨b, off, es, rfl, hb, hR, hc⟩ := H.out.at1 rfl hlt
      have hcall := HP.out wr xs[k] _ (List.getElem_mem hlt) BW.out ((eSl eInt).on hR BW.out)
      obtain ⟨Aq, cq, rfl, gq⟩ := hR
      have d0 : wr.cell? ⟨b, off + k, none⟩ = some (.slice Aq xs[k].length cq) := (below_olds BW.out _ hb).trans (hc _ rfl)
      clear hc gq
      try clear hR
      have HQ1 : Hid (p xs[k] = true → xs.any p = true) := any_hit hlt
      have HQ0 : Hid (p xs[k] = false → (xs.take (k + 1)).any p = false) := any_step hlt HN.out
      generalize xs[k] = y at d0 hcall HQ1 HQ0
      cases hq : p y with
      | true =>
        rw [hq] at hcall
        have HQ := Lib.hid (HQ1.out hq); clear hq HQ1 HQ0
        go_wp2_with (go_at_fn g; refine hcall.mono ?_; rintro e w' ⟨rfl, hb'⟩)
        go_ret
        exact ⟨⟨k, rfl, by rw [HQ.out]; simp⟩, below_trans BW.out hb'⟩
      | false =>
        rw [hq] at hcall
        have HQ := Lib.hid (HQ0.out hq); clear hq HQ1 HQ0
        go_wp2_with (go_at_fn g; refine hcall.mono ?_; rintro e w' ⟨rfl, hb'⟩)
        go_roundg (xs.length - (k + 1))
        case measure => omega
        case rel => exact ⟨k + 1, by omega, by omega, by go_num, below_trans BW.out hb', HQ.out⟩
    · have hltz : ¬ (k : Int) < (xs.length : Int) := by omega
      obtain rfl : k = xs.length := by omega
      go_wp2
      go_ret
      refine ⟨⟨-1, rfl, ?_⟩, BW.out⟩
      have := HN.out
      rw [List.take_length] at this
      rw [this]; rfl

theorem ContainsFunc_Int64S (p : (List Int) → Bool) (g : Nat) (lb : Array Value) (A : Option Addr) (c : Nat) (xs : List (List Int)) (w : World) (h : Sl (eSl eInt) w (Old w) A c xs)
    (eg : ∀ args w, (callFunc g args).run Try.prog w = .ok (.enter g args) w) (hp : ∀ W x es, x ∈ xs → Below w.heap.size w W → (eSl eInt).R W (Old W) es x → Calls Try.prog g (#[es[0]!] ++ lb) W fun e w' => e = .returned (.bool (p x)) ∧ Below W.heap.size W w') :
    Calls Try.prog 183 #[.slice A xs.length c, .func (.func g) #[] lb] w fun e w' => e = .returned (.bool (xs.any p)) ∧ Below w.heap.size w w' := by
  have hI := Lib.hid (IndexFunc_Int64S p g lb A c xs w h eg hp); clear h hp eg
  go_enter Try.func183, Try.ntmps183
  go_wp2_with (go_at_call 194; refine hI.out.mono ?_; rintro e w' ⟨⟨r, rfl, hr⟩, hb⟩; have HR := Lib.hid hr; clear hr)
  go_ret
  exact ⟨by rw [← HR.out]; rfl, hb⟩

set_option maxHeartbeats 400000 in
theorem IndexFunc_Rewrite (p : tRewrite → Bool) (g : Nat) (lb : Array Value) (A : Option Addr) (c : Nat) (xs : List tRewrite) (w : World) (h : Sl eRewrite w (Old w) A c xs)
    (eg : ∀ args w, (callFunc g args).run Try.prog w = .ok (.enter g args) w) (hp : ∀ W x es, x ∈ xs → Below w.heap.size w W → eRewrite.R W (Old W) es x → Calls Try.prog g (#[.agg es.toArray] ++ lb) W fun e w' => e = .returned (.bool (p x)) ∧ Below W.heap.size W w') :
    Calls Try.prog 182 #[.slice A xs.length c, .func (.func g) #[] lb] w fun e w' => (∃ r : Int, e = .returned (.int .i64 r) ∧ decide (0 ≤ r) = xs.any p) ∧ Below w.heap.size w w' := by
  have hlen := h.len
  have H := Lib.hid h; clear h
  have HP := Lib.hid hp; clear hp
  go_enter Try.func182, Try.ntmps182
  go_wp2
  go_loopg [5, 8] xs.length (fun gg _ s8 wr => ∃ k : Nat, k ≤ xs.length ∧ xs.length - k ≤ gg ∧ s8 = .int .i64 k ∧ Hid (Below w.heap.size w wr) ∧ Hid ((xs.take k).any p = false))
  case atStart => exact ⟨0, Nat.zero_le _, by omega, rfl, Below.refl _ w, rfl⟩
  case round =>
    obtain ⟨k, hk, hg, rfl, BW, HN⟩ := hrel
    by_cases hlt : k < xs.length
    · have hltz : (k : Int) < (xs.length : Int) := by omega
      obtain ⟨b, off, es, rfl, hb, hR, hc⟩ := H.out.at hlt
      have hcall := HP.out wr xs[k] _ (List.getElem_mem hlt) BW.out (eRewrite.on hR BW.out)
      obtain ⟨Aq0, cq0, Aq1, cq1, rfl, gq0, gq1⟩ := shape_Rewrite hR
      have d0 : wr.cell? ⟨b, off + k * 2, none⟩ = some (.slice Aq0 xs[k].1.length cq0) := (below_olds BW.out _ hb).trans (hc 0 _ rfl)
      have d1 : wr.cell? ⟨b, off + k * 2 + 1, none⟩ = some (.slice Aq1 xs[k].2.length cq1) := (below_olds BW.out _ hb).trans (hc 1 _ rfl)
      clear hc gq0 gq1
      try clear hR
      have HQ1 : Hid (p xs[k] = true → xs.any p = true) := any_hit hlt
      have HQ0 : Hid (p xs[k] = false → (xs.take (k + 1)).any p = false) := any_step hlt HN.out
      generalize xs[k] = y at d0 d1 hcall HQ1 HQ0
      cases hq : p y with
      | true =>
        rw [hq] at hcall
        have HQ := Lib.hid (HQ1.out hq); clear hq HQ1 HQ0
        go_wp2_with (go_at_fn g; refine hcall.mono ?_; rintro e w' ⟨rfl, hb'⟩)
        go_ret
        exact ⟨⟨k, rfl, by rw [HQ.out]; simp⟩, below_trans BW.out hb'⟩
      | false =>
        rw [hq] at hcall
        have HQ := Lib.hid (HQ0.out hq); clear hq HQ1 HQ0
        go_wp2_with (go_at_fn g; refine hcall.mono ?_; rintro e w' ⟨rfl, hb'⟩)
        go_roundg (xs.length - (k + 1))
        case measure => omega
        case rel => exact ⟨k + 1, by omega, by omega, by go_num, below_trans BW.out hb', HQ.out⟩
    · have hltz : ¬ (k : Int) < (xs.length : Int) := by omega
      obtain rfl : k = xs.length := by omega
      go_wp2
      go_ret
      refine ⟨⟨-1, rfl, ?_⟩, BW.out⟩
      have := HN.out
      rw [List.take_length] at this
      rw [this]; rfl

theorem ContainsFunc_Rewrite (p : tRewrite → Bool) (g : Nat) (lb : Array Value) (A : Option Addr) (c : Nat) (xs : List tRewrite) (w : World) (h : Sl eRewrite w (Old w) A c xs)
    (eg : ∀ args w, (callFunc g args).run Try.prog w = .ok (.enter g args) w) (hp : ∀ W x es, x ∈ xs → Below w.heap.size w W → eRewrite.R W (Old W) es x → Calls Try.prog g (#[.agg es.toArray] ++ lb) W fun e w' => e = .returned (.bool (p x)) ∧ Below W.heap.size W w') :
    Calls Try.prog 145 #[.slice A xs.length c, .func (.func g) #[] lb] w fun e w' => e = .returned (.bool (xs.any p)) ∧ Below w.heap.size w w' := by
  have hI := Lib.hid (IndexFunc_Rewrite p g lb A c xs w h eg hp); clear h hp eg
  go_enter Try.func145, Try.ntmps145
  go_wp2_with (go_at_call 182; refine hI.out.mono ?_; rintro e w' ⟨⟨r, rfl, hr⟩, hb⟩; have HR := Lib.hid hr; clear hr)
  go_ret
  exact ⟨by rw [← HR.out]; rfl, hb⟩

def costL {α : Type} (f : α → Nat) (xs : List α) : Nat := xs.length + (xs.map f).sum

theorem costL_take {α : Type} (f : α → Nat) (xs : List α) (k : Nat) (h : k < xs.length) : ((xs.take (k + 1)).map f).sum = ((xs.take k).map f).sum + f xs[k] := by
  rw [List.take_succ_eq_append_getElem h, List.map_append, List.sum_append]; simp only [List.map_cons, List.map_nil, List.sum_cons, List.sum_nil, Nat.add_zero]

theorem cost_le {α : Type} (f : α → Nat) (xs : List α) (k : Nat) : ((xs.take k).map f).sum ≤ (xs.map f).sum := by
  have h : (xs.map f).sum = ((xs.take k).map f).sum + ((xs.drop k).map f).sum := by
    rw [← List.sum_append, ← List.map_append, List.take_append_drop]
  omega

/-- What the size functions of the laws answer. -/
def left (l : Int) (n : Nat) : Int := if l - n < 0 then -1 else l - n

theorem left_neg {l : Int} {n : Nat} (h : l - n < 0) : left l n = -1 := if_pos h

theorem left_pos {l : Int} {n : Nat} (h : ¬ l - n < 0) : left l n = l - n := if_neg h

def cost_L (xs : List Int) : Nat := xs.length

def cost_Rewrite (x : tRewrite) : Nat := cost_L x.1 + cost_L x.2

def cost_SRewrite (xs : List tRewrite) : Nat := costL cost_Rewrite xs

theorem sz_Int64S (A : Option Addr) (c : Nat) (xs : List Int) (l : Int) (w : World) (h : Sl eInt w (Old w) A c xs) (h0 : 0 ≤ l) (h1 : l ≤ 1048576) :
    Calls Try.prog 119 #[.slice A xs.length c, .int .i64 l] w fun e w' => e = .returned (.int .i64 (left l (cost_L xs))) ∧ Below w.heap.size w w' := by
  have hlen := h.len
  clear h
  unfold cost_L
  by_cases hl : l - xs.length < 0
  · rw [left_neg hl]
    go_enter Try.func119, Try.ntmps119
    go_wp2
    go_ret
    exact ⟨rfl, Below.refl _ _⟩
  · rw [left_pos hl]
    go_enter Try.func119, Try.ntmps119
    go_wp2
    go_ret
    exact ⟨rfl, Below.refl _ _⟩

set_option maxHeartbeats 1000000 in
theorem sz_Rewrite (es : List Value) (x : tRewrite) (l : Int) (w : World) (h : eRewrite.R w (Old w) es x) (h0 : 0 ≤ l) (h1 : l ≤ 1048576) :
    Calls Try.prog 74 #[.agg es.toArray, .int .i64 l] w fun e w' => e = .returned (.int .i64 (left l (cost_Rewrite x))) ∧ Below w.heap.size w w' := by
  obtain ⟨A0, c0, A1, c1, rfl, g0, g1⟩ := shape_Rewrite h
  have HT : Hid (cost_Rewrite x = cost_L x.1 + cost_L x.2) := rfl
  have HB0 := Lib.hid ((Below.refl w.heap.size w).alloc (Nat.le_refl _) (.cells #[.slice A0 x.1.length c0, .slice A1 x.2.length c1] 102))
  have K0 := Lib.hid (g0.on HB0.out); clear g0
  have K1 := Lib.hid (g1.on HB0.out); clear g1
  by_cases t0 : l - (cost_L x.1 : Nat) < 0
  · rw [left_neg (by rw [HT.out]; omega)]
    go_enter Try.func74, Try.ntmps74
    go_wp2_with fail
    refine (sz_Int64S _ _ x.1 _ _ K0.out (by omega) (by omega)).mono ?_
    rintro e w1 ⟨rfl, hb⟩
    rw [left_neg (by omega)]
    have HB1 := Lib.hid hb
    clear hb
    obtain ⟨hc, hf⟩ := bcell HB1.out
    go_wp2
    go_ret
    exact ⟨rfl, HB0.out.trans (HB1.out.mono HB0.out.size)⟩
  by_cases t1 : l - (cost_L x.1 : Nat) - (cost_L x.2 : Nat) < 0
  · rw [left_neg (by rw [HT.out]; omega)]
    go_enter Try.func74, Try.ntmps74
    go_wp2_with fail
    refine (sz_Int64S _ _ x.1 _ _ K0.out (by omega) (by omega)).mono ?_
    rintro e w1 ⟨rfl, hb⟩
    rw [left_pos (by omega)]
    have HB1 := Lib.hid hb
    clear hb
    obtain ⟨hc, hf⟩ := bcell HB1.out
    go_wp2_with fail
    refine (sz_Int64S _ _ x.2 _ _ (K1.out.on HB1.out) (by omega) (by omega)).mono ?_
    rintro e w2 ⟨rfl, hb⟩
    rw [left_neg (by omega)]
    have HB2 := Lib.hid (below_trans HB1.out hb)
    clear hb
    obtain ⟨hc, hf⟩ := bcell HB2.out
    go_wp2
    go_ret
    exact ⟨rfl, HB0.out.trans (HB2.out.mono HB0.out.size)⟩
  rw [left_pos (by rw [HT.out]; omega), show l - ((cost_Rewrite x : Nat) : Int) = l - (cost_L x.1 : Nat) - (cost_L x.2 : Nat) from by rw [HT.out]; first | done | omega]
  go_enter Try.func74, Try.ntmps74
  go_wp2_with fail
  refine (sz_Int64S _ _ x.1 _ _ K0.out (by omega) (by omega)).mono ?_
  rintro e w1 ⟨rfl, hb⟩
  rw [left_pos (by omega)]
  have HB1 := Lib.hid hb
  clear hb
  obtain ⟨hc, hf⟩ := bcell HB1.out
  go_wp2_with fail
  refine (sz_Int64S _ _ x.2 _ _ (K1.out.on HB1.out) (by omega) (by omega)).mono ?_
  rintro e w2 ⟨rfl, hb⟩
  rw [left_pos (by omega)]
  have HB2 := Lib.hid (below_trans HB1.out hb)
  clear hb
  obtain ⟨hc, hf⟩ := bcell HB2.out
  go_wp2
  go_ret
  exact ⟨rfl, HB0.out.trans (HB2.out.mono HB0.out.size)⟩

set_option maxHeartbeats 1000000 in
theorem sz_RewriteS (A : Option Addr) (c : Nat) (xs : List tRewrite) (l : Int) (w : World) (h : Sl eRewrite w (Old w) A c xs) (h0 : 0 ≤ l) (h1 : l ≤ 1048576) :
    Calls Try.prog 20 #[.slice A xs.length c, .int .i64 l] w fun e w' => e = .returned (.int .i64 (left l (cost_SRewrite xs))) ∧ Below w.heap.size w w' := by
  have hlen := h.len
  have H := Lib.hid h; clear h
  have HC : Hid (cost_SRewrite xs = xs.length + (xs.map cost_Rewrite).sum) := rfl
  by_cases hl : l - xs.length < 0
  · rw [left_neg (by rw [HC.out]; omega)]
    go_enter Try.func20, Try.ntmps20
    go_wp2
    go_ret
    exact ⟨rfl, Below.refl _ _⟩
  · go_enter Try.func20, Try.ntmps20
    go_wp2
    go_loopw [1, 5] (fun s1 s5 wr => ∃ (k : Nat) (m : Int), k ≤ xs.length ∧ s5 = .int .i64 k ∧ s1 = .int .i64 m ∧ 0 ≤ m ∧ m ≤ 1048576 ∧ Hid (m = l - xs.length - ((xs.take k).map cost_Rewrite).sum) ∧ Hid (Below w.heap.size w wr)) (fun _ s5 _ => xs.length - (intOf s5).toNat)
    case atStart => exact ⟨0, _, Nat.zero_le _, rfl, rfl, by omega, by omega, by show _ = _; simp, Below.refl _ w⟩
    case round =>
      obtain ⟨k, m, hk, rfl, rfl, hm0, hm1, HM, BW⟩ := hrel
      by_cases hlt : k < xs.length
      · have hltz : (k : Int) < (xs.length : Int) := by omega
        obtain ⟨b, off, es, rfl, hb, hR, hc⟩ := H.out.at hlt
        have HS := Lib.hid (costL_take cost_Rewrite xs k hlt)
        have HLE := Lib.hid (cost_le cost_Rewrite xs (k + 1))
        have HC2 : Hid (∀ l, 0 ≤ l → l ≤ 1048576 → Calls Try.prog 74 #[.agg es.toArray, .int .i64 l] wr _) := fun l h0 h1 => sz_Rewrite es xs[k] l wr (eRewrite.on hR BW.out) h0 h1
        obtain ⟨Aq0, cq0, Aq1, cq1, rfl, gq0, gq1⟩ := shape_Rewrite hR
        have d0 : wr.cell? ⟨b, off + k * 2, none⟩ = some (.slice Aq0 xs[k].1.length cq0) := (below_olds BW.out _ hb).trans (hc 0 _ rfl)
        have d1 : wr.cell? ⟨b, off + k * 2 + 1, none⟩ = some (.slice Aq1 xs[k].2.length cq1) := (below_olds BW.out _ hb).trans (hc 1 _ rfl)
        clear hc gq0 gq1
        try clear hR
        generalize xs[k] = y at d0 d1 HC2 HS
        by_cases hz : m - cost_Rewrite y < 0
        · go_wp2_with fail
          refine (HC2.out m hm0 hm1).mono ?_
          rintro e w2 ⟨rfl, hb2⟩
          rw [left_neg (by omega)]
          go_wp2
          go_ret
          exact ⟨by rw [left_neg (by rw [HC.out]; have := HM.out; have := HS.out; have := HLE.out; omega)]; rfl, below_trans BW.out hb2⟩
        · have hz1 : 0 ≤ m - cost_Rewrite y := by omega
          go_wp2_with fail
          refine (HC2.out m hm0 hm1).mono ?_
          rintro e w2 ⟨rfl, hb2⟩
          rw [left_pos (by omega)]
          go_wp2
          go_roundw
          case rel => exact ⟨k + 1, m - cost_Rewrite y, by omega, by go_num, rfl, by omega, by omega, by show _ = _; have := HM.out; have := HS.out; omega, below_trans BW.out hb2⟩
          case measure => simp [intOf]; omega
      · have hltz : ¬ (k : Int) < (xs.length : Int) := by omega
        obtain rfl : k = xs.length := by omega
        go_wp2
        go_ret
        have h2 := HM.out
        rw [List.take_length] at h2
        exact ⟨by rw [left_pos (by rw [HC.out]; omega), HC.out, show l - ((xs.length + (xs.map cost_Rewrite).sum : Nat) : Int) = m from by omega]; rfl, BW.out⟩

def eq_i (x y : Int) : Bool := x == y

def eq_L (x y : List Int) : Bool := eqL eq_i x y

theorem eq_i_refl (x : Int) : eq_i x x = true := by simp [eq_i]

theorem eq_L_refl (x : List Int) : eq_L x x = true := eqL_refl eq_i_refl x

def eq_Rewrite (x y : tRewrite) : Bool := eq_L x.1 y.1 && eq_L x.2 y.2

theorem eq_Rewrite_refl (x : tRewrite) : eq_Rewrite x x = true := by unfold eq_Rewrite; simp [eq_L_refl]

def eq_SRewrite (x y : List tRewrite) : Bool := eqL eq_Rewrite x y

theorem eq_SRewrite_refl (x : List tRewrite) : eq_SRewrite x x = true := eqL_refl eq_Rewrite_refl x

set_option maxRecDepth 100000 in
set_option maxHeartbeats 1000000 in
theorem eq_L_c (A A' : Option Addr) (c c' : Nat) (xs ys : List Int) (w : World) (h : Sl eInt w (Old w) A c xs) (h' : Sl eInt w (Old w) A' c' ys) :
    Calls Try.prog 26 #[.slice A xs.length c, .slice A' ys.length c'] w fun e w' => e = .returned (.bool (eq_L xs ys)) ∧ Below w.heap.size w w' := by
  have hlen := h.len
  have hlen' := h'.len
  unfold eq_L
  by_cases hne : xs.length = ys.length
  · have hne' : ((xs.length : Int) != (ys.length : Int)) = false := by simp [hne]
    have HE := Lib.hid hne; clear hne
    have H := Lib.hid h; clear h
    have H' := Lib.hid h'; clear h'
    go_enter Try.func26, Try.ntmps26
    go_wp2
    clear hne'
    go_loopw [5] (fun s5 wr => ∃ k : Nat, k ≤ xs.length ∧ s5 = .int .i64 k ∧ Hid (Below w.heap.size w wr) ∧ Hid (∀ j (h1 : j < xs.length) (h2 : j < ys.length), j < k → eq_i xs[j] ys[j] = true)) (fun s5 _ => xs.length - (intOf s5).toNat)
    case atStart => exact ⟨0, Nat.zero_le _, rfl, Below.refl _ _, fun j _ _ h => absurd h (Nat.not_lt_zero _)⟩
    case round =>
      obtain ⟨k, hk, rfl, HL, HN⟩ := hrel
      by_cases hlt : k < xs.length
      · have hltz : (k : Int) < (xs.length : Int) := by omega
        have hlt' : k < ys.length := by have := HE.out; omega
        have hltz' : (k : Int) < (ys.length : Int) := by omega
        obtain ⟨bp, offp, esp, rfl, hbp, hR, hc⟩ := H.out.at1 rfl hlt
        obtain ⟨rfl, gp⟩ := hR
        have dp0 : wr.cell? ⟨bp, offp + k, none⟩ = some (.int .i64 xs[k]) := (below_olds HL.out _ hbp).trans (hc _ rfl)
        clear hc gp
        try clear hR
        obtain ⟨bq, offq, esq, rfl, hbq, hR, hc⟩ := H'.out.at1 rfl hlt'
        obtain ⟨rfl, gq⟩ := hR
        have dq0 : wr.cell? ⟨bq, offq + k, none⟩ = some (.int .i64 ys[k]) := (below_olds HL.out _ hbq).trans (hc _ rfl)
        clear hc gq
        try clear hR
        have HQ0 : Hid (eq_i xs[k] ys[k] = false → eqL eq_i xs ys = false) := eqL_get xs ys k hlt hlt'
        have HQ1 : Hid (eq_i xs[k] ys[k] = true → ∀ j (h1 : j < xs.length) (h2 : j < ys.length), j < k + 1 → eq_i xs[j] ys[j] = true) := fun e j h1 h2 hj => by
          by_cases ej : j = k
          · subst ej; exact e
          · exact HN.out j h1 h2 (by omega)
        generalize xs[k] = x at dp0 HQ0 HQ1
        generalize ys[k] = y at dq0 HQ0 HQ1
        cases hq : eq_i x y
        · have hq' : (x != y) = true := by simp [eq_i] at hq; simp [hq]
          go_wp2_with fail
          go_quiet (fail)
          go_wp2
          go_ret
          exact ⟨by rw [HQ0.out hq]; rfl, below_drewN HL.out _⟩
        · have hq' : (x != y) = false := by simp [eq_i] at hq; simp [hq]
          go_wp2_with fail
          go_quiet (fail)
          go_wp2
          go_roundw
          case rel => exact ⟨k + 1, by omega, by go_num, below_drewN HL.out _, HQ1.out hq⟩
          case measure => simp [intOf]; omega
      · have hltz : ¬ (k : Int) < (xs.length : Int) := by omega
        obtain rfl : k = xs.length := by omega
        go_wp2
        go_ret
        exact ⟨by rw [eqL_all xs ys HE.out fun j h1 h2 => HN.out j h1 h2 h1]; rfl, HL.out⟩
  · have hne' : ((xs.length : Int) != (ys.length : Int)) = true := by simp; omega
    rw [eqL_len xs ys hne]
    clear h h' hne
    go_enter Try.func26, Try.ntmps26
    go_wp2
    go_ret
    exact ⟨rfl, Below.refl _ _⟩

set_option maxHeartbeats 1000000 in
theorem eq_Rewrite_c (es es' : List Value) (x y : tRewrite) (w : World) (h : eRewrite.R w (Old w) es x) (h' : eRewrite.R w (Old w) es' y) :
    Calls Try.prog 82 #[.agg es.toArray, .agg es'.toArray] w fun e w' => e = .returned (.bool (eq_Rewrite x y)) ∧ Below w.heap.size w w' := by
  obtain ⟨Ax0, cx0, Ax1, cx1, rfl, gx0, gx1⟩ := shape_Rewrite h
  obtain ⟨Ay0, cy0, Ay1, cy1, rfl, gy0, gy1⟩ := shape_Rewrite h'
  have HB0 := Lib.hid (((Below.refl w.heap.size w).alloc (Nat.le_refl _) (.cells #[.slice Ax0 x.1.length cx0, .slice Ax1 x.2.length cx1] 105)).alloc (by simp) (.cells #[.slice Ay0 y.1.length cy0, .slice Ay1 y.2.length cy1] 105))
  have HX0 := Lib.hid (gx0.on HB0.out); clear gx0
  have HY0 := Lib.hid (gy0.on HB0.out); clear gy0
  have HX1 := Lib.hid (gx1.on HB0.out); clear gx1
  have HY1 := Lib.hid (gy1.on HB0.out); clear gy1
  cases t0 : eq_L x.1 y.1
  · rw [show eq_Rewrite x y = false from by unfold eq_Rewrite; simp [t0]]
    go_enter Try.func82, Try.ntmps82
    go_wp2_with fail
    refine (eq_L_c _ _ _ _ x.1 y.1 _ HX0.out HY0.out).mono ?_
    rintro e w1 ⟨rfl, hb⟩
    rw [t0]
    have HB1 := Lib.hid hb
    clear hb
    obtain ⟨hc, hf⟩ := bcell HB1.out
    go_wp2
    go_ret
    exact ⟨rfl, below_trans HB0.out HB1.out⟩
  cases t1 : eq_L x.2 y.2
  · rw [show eq_Rewrite x y = false from by unfold eq_Rewrite; simp [t0, t1]]
    go_enter Try.func82, Try.ntmps82
    go_wp2_with fail
    refine (eq_L_c _ _ _ _ x.1 y.1 _ HX0.out HY0.out).mono ?_
    rintro e w1 ⟨rfl, hb⟩
    rw [t0]
    have HB1 := Lib.hid hb
    clear hb
    obtain ⟨hc, hf⟩ := bcell HB1.out
    go_wp2_with fail
    refine (eq_L_c _ _ _ _ x.2 y.2 _ (HX1.out.on HB1.out) (HY1.out.on HB1.out)).mono ?_
    rintro e w2 ⟨rfl, hb⟩
    rw [t1]
    have HB2 := Lib.hid (below_trans HB1.out hb)
    clear hb
    obtain ⟨hc, hf⟩ := bcell HB2.out
    go_wp2
    go_ret
    exact ⟨rfl, below_trans HB0.out HB2.out⟩
  rw [show eq_Rewrite x y = true from by unfold eq_Rewrite; simp [t0, t1]]
  go_enter Try.func82, Try.ntmps82
  go_wp2_with fail
  refine (eq_L_c _ _ _ _ x.1 y.1 _ HX0.out HY0.out).mono ?_
  rintro e w1 ⟨rfl, hb⟩
  rw [t0]
  have HB1 := Lib.hid hb
  clear hb
  obtain ⟨hc, hf⟩ := bcell HB1.out
  go_wp2_with fail
  refine (eq_L_c _ _ _ _ x.2 y.2 _ (HX1.out.on HB1.out) (HY1.out.on HB1.out)).mono ?_
  rintro e w2 ⟨rfl, hb⟩
  rw [t1]
  have HB2 := Lib.hid (below_trans HB1.out hb)
  clear hb
  obtain ⟨hc, hf⟩ := bcell HB2.out
  go_wp2
  go_ret
  exact ⟨rfl, below_trans HB0.out HB2.out⟩

set_option maxRecDepth 100000 in
set_option maxHeartbeats 1000000 in
theorem eq_SRewrite_c (A A' : Option Addr) (c c' : Nat) (xs ys : List tRewrite) (w : World) (h : Sl eRewrite w (Old w) A c xs) (h' : Sl eRewrite w (Old w) A' c' ys) :
    Calls Try.prog 25 #[.slice A xs.length c, .slice A' ys.length c'] w fun e w' => e = .returned (.bool (eq_SRewrite xs ys)) ∧ Below w.heap.size w w' := by
  have hlen := h.len
  have hlen' := h'.len
  unfold eq_SRewrite
  by_cases hne : xs.length = ys.length
  · have hne' : ((xs.length : Int) != (ys.length : Int)) = false := by simp [hne]
    have HE := Lib.hid hne; clear hne
    have H := Lib.hid h; clear h
    have H' := Lib.hid h'; clear h'
    go_enter Try.func25, Try.ntmps25
    go_wp2
    clear hne'
    go_loopw [5] (fun s5 wr => ∃ k : Nat, k ≤ xs.length ∧ s5 = .int .i64 k ∧ Hid (Below w.heap.size w wr) ∧ Hid (∀ j (h1 : j < xs.length) (h2 : j < ys.length), j < k → eq_Rewrite xs[j] ys[j] = true)) (fun s5 _ => xs.length - (intOf s5).toNat)
    case atStart => exact ⟨0, Nat.zero_le _, rfl, Below.refl _ _, fun j _ _ h => absurd h (Nat.not_lt_zero _)⟩
    case round =>
      obtain ⟨k, hk, rfl, HL, HN⟩ := hrel
      by_cases hlt : k < xs.length
      · have hltz : (k : Int) < (xs.length : Int) := by omega
        have hlt' : k < ys.length := by have := HE.out; omega
        have hltz' : (k : Int) < (ys.length : Int) := by omega
        obtain ⟨bp, offp, esp, rfl, hbp, hR, hc⟩ := H.out.at hlt
        have HRp := Lib.hid (eRewrite.on hR HL.out)
        obtain ⟨Ap0, cp0, Ap1, cp1, rfl, gp0, gp1⟩ := shape_Rewrite hR
        have dp0 : wr.cell? ⟨bp, offp + k * 2, none⟩ = some (.slice Ap0 xs[k].1.length cp0) := (below_olds HL.out _ hbp).trans (hc 0 _ rfl)
        have dp1 : wr.cell? ⟨bp, offp + k * 2 + 1, none⟩ = some (.slice Ap1 xs[k].2.length cp1) := (below_olds HL.out _ hbp).trans (hc 1 _ rfl)
        clear hc gp0 gp1
        try clear hR
        obtain ⟨bq, offq, esq, rfl, hbq, hR, hc⟩ := H'.out.at hlt'
        have HRq := Lib.hid (eRewrite.on hR HL.out)
        obtain ⟨Aq0, cq0, Aq1, cq1, rfl, gq0, gq1⟩ := shape_Rewrite hR
        have dq0 : wr.cell? ⟨bq, offq + k * 2, none⟩ = some (.slice Aq0 ys[k].1.length cq0) := (below_olds HL.out _ hbq).trans (hc 0 _ rfl)
        have dq1 : wr.cell? ⟨bq, offq + k * 2 + 1, none⟩ = some (.slice Aq1 ys[k].2.length cq1) := (below_olds HL.out _ hbq).trans (hc 1 _ rfl)
        clear hc gq0 gq1
        try clear hR
        have HQ0 : Hid (eq_Rewrite xs[k] ys[k] = false → eqL eq_Rewrite xs ys = false) := eqL_get xs ys k hlt hlt'
        have HQ1 : Hid (eq_Rewrite xs[k] ys[k] = true → ∀ j (h1 : j < xs.length) (h2 : j < ys.length), j < k + 1 → eq_Rewrite xs[j] ys[j] = true) := fun e j h1 h2 hj => by
          by_cases ej : j = k
          · subst ej; exact e
          · exact HN.out j h1 h2 (by omega)
        generalize xs[k] = x at dp0 dp1 HRp HQ0 HQ1
        generalize ys[k] = y at dq0 dq1 HRq HQ0 HQ1
        go_wp2_with fail
        go_still_tail 8, (by kernel_rfl)
        cases hq : eq_Rewrite x y
        · go_wp2_with fail
          refine (eq_Rewrite_c _ _ x y _ (eRewrite.on HRp.out (Below.refl _ _).drew) (eRewrite.on HRq.out (Below.refl _ _).drew)).mono ?_
          rintro e w2 ⟨rfl, hb2⟩
          rw [hq]
          go_wp2
          go_ret
          exact ⟨by rw [HQ0.out hq]; rfl, HL.out.drew.trans (hb2.mono HL.out.size)⟩
        · go_wp2_with fail
          refine (eq_Rewrite_c _ _ x y _ (eRewrite.on HRp.out (Below.refl _ _).drew) (eRewrite.on HRq.out (Below.refl _ _).drew)).mono ?_
          rintro e w2 ⟨rfl, hb2⟩
          rw [hq]
          go_wp2
          go_roundw
          case rel => exact ⟨k + 1, by omega, by go_num, HL.out.drew.trans (hb2.mono HL.out.size), HQ1.out hq⟩
          case measure => simp [intOf]; omega
      · have hltz : ¬ (k : Int) < (xs.length : Int) := by omega
        obtain rfl : k = xs.length := by omega
        go_wp2
        go_ret
        exact ⟨by rw [eqL_all xs ys HE.out fun j h1 h2 => HN.out j h1 h2 h1]; rfl, HL.out⟩
  · have hne' : ((xs.length : Int) != (ys.length : Int)) = true := by simp; omega
    rw [eqL_len xs ys hne]
    clear h h' hne
    go_enter Try.func25, Try.ntmps25
    go_wp2
    go_ret
    exact ⟨rfl, Below.refl _ _⟩

theorem cost_mem {α : Type} (f : α → Nat) (xs : List α) (k : Nat) (h : k < xs.length) : f xs[k] + xs.length ≤ costL f xs := by
  have h1 := costL_take f xs k h
  have h2 := cost_le f xs (k + 1)
  unfold costL
  omega

theorem info_impl_Int64 : (Try.prog.info? 2).map (fun i => (i.zero, i.size, i.bytes)) = some (some (.int .i64 0), 1, 8) := by kernel_rfl

set_option maxHeartbeats 1000000 in
theorem to_Int64S (A : Option Addr) (c : Nat) (xs : List Int) (w : World) (h : Sl eInt w (Old w) A c xs) (hsm : cost_L xs ≤ 1048576) :
    Calls Try.prog 23 #[.slice A xs.length c] w fun e w' => ∃ A' c', e = .returned (.slice A' xs.length c') ∧ So eInt w' (Fr w w') A' c' xs ∧ Below w.heap.size w w' := by
  obtain ⟨i0, hi0, hz0, hz1, hz2⟩ := info_parts info_impl_Int64
  have hlen := h.len
  have hsl : xs.length ≤ 1048576 := by exact hsm
  have HCO := Lib.hid hsm; clear hsm
  have H := Lib.hid h; clear h
  go_enter Try.func23, Try.ntmps23
  go_wp2_with (at_make; refine wpList_make_full _ rfl _ _ 31 rfl w.heap.size 2 i0 _ 1 Try.underlying31 hi0 hz0 hz1 _ _ _ _ xs.length rfl rfl rfl rfl (by rw [hz2]; omega) (by unfold maxLen; omega) (Nat.le_refl _) ?_)
  intro w1 hown hgrow
  obtain ⟨cur, hB, hs, ht, hn1, hn2⟩ := Blk.of_own hown
  have HB := Lib.hid hB; clear hB
  have HS : Hid (cur.size = xs.length) := by show _ = _; omega
  have hbel : Below w.heap.size w w1 := (Below.refl _ _).grown hgrow (Nat.le_refl _) (by simp)
  have HL := Lib.hid hbel; clear hbel
  clear hs ht hn1 hn2 hgrow hown hi0 hz0 hz1 hz2
  go_wp2_with fail
  go_loopw [4] (fun s4 wr => ∃ (k : Nat) (cur : Array Value), k ≤ xs.length ∧ s4 = .int .i64 k ∧ Hid (Below w.heap.size w wr) ∧ Hid (Blk wr w.heap.size 2 cur) ∧ Hid (cur.size = xs.length) ∧ Hid (Filled eInt wr w.heap.size (fun b => w.heap.size ≤ b) cur k xs)) (fun s4 _ => xs.length - (intOf s4).toNat)
  case atStart => exact ⟨0, cur, Nat.zero_le _, rfl, HL, HB, HS, Filled.zero⟩
  case round =>
    clear HB HS HL
    obtain ⟨k, cur, hk, rfl, HL, HB, HS, HF⟩ := hrel
    by_cases hlt : k < xs.length
    · have hltz : (k : Int) < (xs.length : Int) := by omega
      obtain ⟨b, off, es, rfl, hb, hR, hc⟩ := H.out.at1 rfl hlt
      have HX : Hid (xs[k]? = some xs[k]) := List.getElem?_eq_getElem hlt
      obtain ⟨rfl, gq⟩ := hR
      have d0 : wr.cell? ⟨b, off + k, none⟩ = some (.int .i64 xs[k]) := (below_olds HL.out _ hb).trans (hc _ rfl)
      have HR := Lib.hid gq
      clear hc gq
      try clear hR
      obtain ⟨v0, hv0⟩ : ∃ v, cur[k]? = some v := get_some (by have := HS.out; omega)
      have HV0 := Lib.hid hv0; clear hv0
      generalize xs[k] = y at d0 HX HR
      have e0 : wr.cell? ⟨w.heap.size, k, none⟩ = some v0 := (HB.out.cell _).trans HV0.out
      have f0 := HB.out.frozen (k)
      go_wp2
      go_roundw
      case rel =>
        exact ⟨k + 1, setAll cur k [_], by omega, by go_num, HL.out.setCell (Nat.le_refl _) _, HB.out.set _ _, (size_setAll _ _ _).trans HS.out, by
          have := (HF.out.set k (.int .i64 y)).step (w' := wr.setCell ⟨w.heap.size, k, none⟩ (.int .i64 y)) (T0 := fun _ => False) (es := [.int .i64 y]) (fun _ _ _ => rfl) (Nat.le_refl _) HX.out ⟨rfl, HR.out⟩ (fun _ h => h.elim) (by have := HS.out; show (k + 1) * 1 ≤ _; omega)
          rw [show k * eInt.size = k from Nat.mul_one k] at this
          exact this⟩
      case measure => simp [intOf]; omega
    · have hltz : ¬ (k : Int) < (xs.length : Int) := by omega
      obtain rfl : k = xs.length := by omega
      go_wp2
      go_ret
      exact ⟨_, _, rfl, HF.out.soFr HB.out (Nat.le_refl _) (by unfold maxLen; omega), HL.out⟩

theorem info_impl_Rewrite : (Try.prog.info? 105).map (fun i => (i.zero, i.size, i.bytes)) = some (some (.agg #[.slice none 0 0, .slice none 0 0]), 2, 48) := by kernel_rfl

set_option maxRecDepth 100000 in
set_option maxHeartbeats 2000000 in
theorem to_Rewrite (es : List Value) (x : tRewrite) (w : World) (h : eRewrite.R w (Old w) es x) (hcost : cost_Rewrite x ≤ 1048576) :
    Calls Try.prog 78 #[.agg es.toArray] w fun e w' => ∃ es', e = .returned (.agg es'.toArray) ∧ eRewrite.O w' (Fr w w') es' x ∧ Below w.heap.size w w' := by
  obtain ⟨A0, c0, A1, c1, rfl, g0, g1⟩ := shape_Rewrite h
  have HC : Hid (cost_Rewrite x ≤ 1048576) := hcost
  unfold cost_Rewrite at hcost
  have HB0 : Hid (Below w.heap.size w (((w.alloc (.cells #[.slice A0 x.1.length c0, .slice A1 x.2.length c1] 102)).alloc (.cells #[.slice none 0 0, .slice none 0 0] 105)).alloc (.cells #[.slice none 0 0, .slice none 0 0] 105))) := by show Below _ _ _; go_grown
  have hc0 : cost_L x.1 ≤ 1048576 := by omega
  have HC0 := Lib.hid hc0; clear hc0
  have K0 := Lib.hid g0; clear g0
  have hc1 : cost_L x.2 ≤ 1048576 := by omega
  have HC1 := Lib.hid hc1; clear hc1
  have K1 := Lib.hid g1; clear g1
  clear hcost h
  go_enter Try.func78, Try.ntmps78
  go_wp2_with fail
  refine (to_Int64S _ _ x.1 _ (by exact K0.out.on HB0.out) HC0.out).mono ?_
  rintro e w1 ⟨A0', c0', rfl, hs, hb⟩
  have HS1 := Lib.hid hs; clear hs
  have BL1 := Lib.hid (HB0.out.trans (hb.mono HB0.out.size))
  have HBW1 := Lib.hid hb; clear hb
  have HX := Lib.hid ((((Blk.new w 102 #[.slice A0 x.1.length c0, .slice A1 x.2.length c1]).alloc _).alloc _).on HBW1.out)
  have HR := Lib.hid (((Blk.new1 w _ 105 #[.slice none 0 0, .slice none 0 0]).alloc _).on HBW1.out)
  have HO : Hid (Blk w1 (w.heap.size + 1 + 1) 105 #[.slice none 0 0, .slice none 0 0]) := (Blk.new2 w _ _ 105 #[.slice none 0 0, .slice none 0 0]).on HBW1.out
  have x0 : w1.cell? ⟨w.heap.size, 0, none⟩ = some (.slice A0 x.1.length c0) := HX.out.cell 0
  have o0 : w1.cell? ⟨w.heap.size + 1 + 1, 0, none⟩ = some (.slice none 0 0) := HO.out.cell 0
  have r0 : w1.cell? ⟨w.heap.size + 1, 0, none⟩ = some (.slice none 0 0) := HR.out.cell 0
  have p0 : w1.frozen? ⟨w.heap.size + 1 + 1, 0, none⟩ = false := HO.out.frozen 0
  have q0 : w1.frozen? ⟨w.heap.size + 1, 0, none⟩ = false := HR.out.frozen 0
  have x1 : w1.cell? ⟨w.heap.size, 1, none⟩ = some (.slice A1 x.2.length c1) := HX.out.cell 1
  have o1 : w1.cell? ⟨w.heap.size + 1 + 1, 1, none⟩ = some (.slice none 0 0) := HO.out.cell 1
  have r1 : w1.cell? ⟨w.heap.size + 1, 1, none⟩ = some (.slice none 0 0) := HR.out.cell 1
  have p1 : w1.frozen? ⟨w.heap.size + 1 + 1, 1, none⟩ = false := HO.out.frozen 1
  have q1 : w1.frozen? ⟨w.heap.size + 1, 1, none⟩ = false := HR.out.frozen 1
  go_wp2_with fail
  refine (to_Int64S _ _ x.2 _ (by exact K1.out.on (BL1.out.setCell (p := ⟨w.heap.size + 1 + 1, 0, none⟩) (by show w.heap.size ≤ w.heap.size + 1 + 1; omega) _)) HC1.out).mono ?_
  rintro e w2 ⟨A1', c1', rfl, hs, hb⟩
  have HS2 := Lib.hid hs; clear hs
  have BL2 := Lib.hid ((BL1.out.setCell (p := ⟨w.heap.size + 1 + 1, 0, none⟩) (by show w.heap.size ≤ w.heap.size + 1 + 1; omega) _).trans (hb.mono (BL1.out.setCell (p := ⟨w.heap.size + 1 + 1, 0, none⟩) (by show w.heap.size ≤ w.heap.size + 1 + 1; omega) _).size))
  have HBW2 := Lib.hid hb; clear hb
  have HX' := Lib.hid ((HX.out.far (p := ⟨w.heap.size + 1 + 1, 0, none⟩) (by show w.heap.size ≠ w.heap.size + 1 + 1; omega) _).on HBW2.out); clear HX; have HX := HX'; clear HX'
  have HR' := Lib.hid ((HR.out.far (p := ⟨w.heap.size + 1 + 1, 0, none⟩) (by show w.heap.size + 1 ≠ w.heap.size + 1 + 1; omega) _).on HBW2.out); clear HR; have HR := HR'; clear HR'
  have HO' : Hid (Blk w2 (w.heap.size + 1 + 1) 105 #[.slice A0' x.1.length c0', .slice none 0 0]) := (HO.out.set _ _).on HBW2.out; clear HO; have HO := HO'; clear HO'
  clear x0 o0 r0 p0 q0 x1 o1 r1 p1 q1
  have x0 : w2.cell? ⟨w.heap.size, 0, none⟩ = some (.slice A0 x.1.length c0) := HX.out.cell 0
  have o0 : w2.cell? ⟨w.heap.size + 1 + 1, 0, none⟩ = some (.slice A0' x.1.length c0') := HO.out.cell 0
  have r0 : w2.cell? ⟨w.heap.size + 1, 0, none⟩ = some (.slice none 0 0) := HR.out.cell 0
  have p0 : w2.frozen? ⟨w.heap.size + 1 + 1, 0, none⟩ = false := HO.out.frozen 0
  have q0 : w2.frozen? ⟨w.heap.size + 1, 0, none⟩ = false := HR.out.frozen 0
  have x1 : w2.cell? ⟨w.heap.size, 1, none⟩ = some (.slice A1 x.2.length c1) := HX.out.cell 1
  have o1 : w2.cell? ⟨w.heap.size + 1 + 1, 1, none⟩ = some (.slice none 0 0) := HO.out.cell 1
  have r1 : w2.cell? ⟨w.heap.size + 1, 1, none⟩ = some (.slice none 0 0) := HR.out.cell 1
  have p1 : w2.frozen? ⟨w.heap.size + 1 + 1, 1, none⟩ = false := HO.out.frozen 1
  have q1 : w2.frozen? ⟨w.heap.size + 1, 1, none⟩ = false := HR.out.frozen 1
  go_wp2
  have hE : Blk (((w2.setCell ⟨w.heap.size + 1 + 1, 1, none⟩ (.slice A1' x.2.length c1')).setCell ⟨w.heap.size + 1, 0, none⟩ (.slice A0' x.1.length c0')).setCell ⟨w.heap.size + 1, 1, none⟩ (.slice A1' x.2.length c1')) (w.heap.size + 1) 105 #[.slice A0' x.1.length c0', .slice A1' x.2.length c1'] := (((HR.out.far (p := ⟨w.heap.size + 1 + 1, 1, none⟩) (by show w.heap.size + 1 ≠ w.heap.size + 1 + 1; omega) _).set _ _).set _ _)
  have e0 : (((w2.setCell ⟨w.heap.size + 1 + 1, 1, none⟩ (.slice A1' x.2.length c1')).setCell ⟨w.heap.size + 1, 0, none⟩ (.slice A0' x.1.length c0')).setCell ⟨w.heap.size + 1, 1, none⟩ (.slice A1' x.2.length c1')).cell? ⟨w.heap.size + 1, 0, none⟩ = some (.slice A0' x.1.length c0') := hE.cell 0
  have e1 : (((w2.setCell ⟨w.heap.size + 1 + 1, 1, none⟩ (.slice A1' x.2.length c1')).setCell ⟨w.heap.size + 1, 0, none⟩ (.slice A0' x.1.length c0')).setCell ⟨w.heap.size + 1, 1, none⟩ (.slice A1' x.2.length c1')).cell? ⟨w.heap.size + 1, 1, none⟩ = some (.slice A1' x.2.length c1') := hE.cell 1
  refine bodyPost_ret (v := .agg #[.slice A0' x.1.length c0', .slice A1' x.2.length c1']) (by simp [results, Try.results78, go_sem, e0, e1]) rfl ?_
  have t1 : w.heap.size + 3 ≤ w1.heap.size := by have h1 := HBW1.out.size; simp only [World.size_alloc] at h1; omega
  have t2 : w.heap.size + 3 ≤ w2.heap.size := by have h1 := HBW1.out.size; simp only [World.size_alloc] at h1; have h2 := HBW2.out.size; simp only [World.size_setCell] at h2; omega
  refine ⟨[.slice A0' x.1.length c0', .slice A1' x.2.length c1'], rfl, ?_, ?_⟩
  · have sE1 : So eInt (((w2.setCell ⟨w.heap.size + 1 + 1, 1, none⟩ (.slice A1' x.2.length c1')).setCell ⟨w.heap.size + 1, 0, none⟩ (.slice A0' x.1.length c0')).setCell ⟨w.heap.size + 1, 1, none⟩ (.slice A1' x.2.length c1')) (Iv w.heap.size w1.heap.size) _ _ x.1 := (HS1.out.keep (w' := (((w2.setCell ⟨w.heap.size + 1 + 1, 1, none⟩ (.slice A1' x.2.length c1')).setCell ⟨w.heap.size + 1, 0, none⟩ (.slice A0' x.1.length c0')).setCell ⟨w.heap.size + 1, 1, none⟩ (.slice A1' x.2.length c1'))) fun b hb => ((((((Lat.refl (w.heap.size + 3) w1).set (p := ⟨w.heap.size + 1 + 1, 0, none⟩) (by show w.heap.size + 1 + 1 < _; omega)).below HBW2.out).set (p := ⟨w.heap.size + 1 + 1, 1, none⟩) (by show w.heap.size + 1 + 1 < _; omega)).set (p := ⟨w.heap.size + 1, 0, none⟩) (by show w.heap.size + 1 < _; omega)).set (p := ⟨w.heap.size + 1, 1, none⟩) (by show w.heap.size + 1 < _; omega)).block b (by have h1 := hb.1; simp only [World.size_alloc, World.size_setCell] at h1; omega) hb.2).more (Iv.mono (by simp only [World.size_alloc]; omega) (by omega))
    have u2 : w1.heap.size ≤ w2.heap.size := by have := HBW2.out.size; simp only [World.size_setCell] at this; omega
    have sE2 : So eInt (((w2.setCell ⟨w.heap.size + 1 + 1, 1, none⟩ (.slice A1' x.2.length c1')).setCell ⟨w.heap.size + 1, 0, none⟩ (.slice A0' x.1.length c0')).setCell ⟨w.heap.size + 1, 1, none⟩ (.slice A1' x.2.length c1')) (Iv w1.heap.size (((w2.setCell ⟨w.heap.size + 1 + 1, 1, none⟩ (.slice A1' x.2.length c1')).setCell ⟨w.heap.size + 1, 0, none⟩ (.slice A0' x.1.length c0')).setCell ⟨w.heap.size + 1, 1, none⟩ (.slice A1' x.2.length c1')).heap.size) _ _ x.2 := (HS2.out.keep (w' := (((w2.setCell ⟨w.heap.size + 1 + 1, 1, none⟩ (.slice A1' x.2.length c1')).setCell ⟨w.heap.size + 1, 0, none⟩ (.slice A0' x.1.length c0')).setCell ⟨w.heap.size + 1, 1, none⟩ (.slice A1' x.2.length c1'))) fun b hb => ((((Lat.refl (w.heap.size + 3) w2).set (p := ⟨w.heap.size + 1 + 1, 1, none⟩) (by show w.heap.size + 1 + 1 < _; omega)).set (p := ⟨w.heap.size + 1, 0, none⟩) (by show w.heap.size + 1 < _; omega)).set (p := ⟨w.heap.size + 1, 1, none⟩) (by show w.heap.size + 1 < _; omega)).block b (by have h1 := hb.1; simp only [World.size_alloc, World.size_setCell] at h1; omega) hb.2).more (Iv.mono (by simp only [World.size_setCell]; omega) (by simp only [World.size_setCell]; omega))
    exact (oPr (l := w.heap.size) (m := w1.heap.size) (oSl sE1) (oSl sE2) (by omega) (by first | omega | (simp only [World.size_setCell]; omega)))
  · exact (((BL2.out.setCell (p := ⟨w.heap.size + 1 + 1, 1, none⟩) (by show w.heap.size ≤ w.heap.size + 1 + 1; omega) _).setCell (p := ⟨w.heap.size + 1, 0, none⟩) (by show w.heap.size ≤ w.heap.size + 1; omega) _).setCell (p := ⟨w.heap.size + 1, 1, none⟩) (by show w.heap.size ≤ w.heap.size + 1; omega) _)

set_option maxHeartbeats 1000000 in
theorem to_RewriteS (A : Option Addr) (c : Nat) (xs : List tRewrite) (w : World) (h : Sl eRewrite w (Old w) A c xs) (hsm : cost_SRewrite xs ≤ 1048576) :
    Calls Try.prog 22 #[.slice A xs.length c] w fun e w' => ∃ A' c', e = .returned (.slice A' xs.length c') ∧ So eRewrite w' (Fr w w') A' c' xs ∧ Below w.heap.size w w' := by
  obtain ⟨i0, hi0, hz0, hz1, hz2⟩ := info_parts info_impl_Rewrite
  have hlen := h.len
  have hsl : xs.length ≤ 1048576 := by have : cost_SRewrite xs = costL cost_Rewrite xs := rfl; unfold costL at this; omega
  have HCO := Lib.hid hsm; clear hsm
  have H := Lib.hid h; clear h
  go_enter Try.func22, Try.ntmps22
  go_wp2_with (at_make; refine wpList_make_full _ rfl _ _ 34 rfl w.heap.size 105 i0 _ 2 Try.underlying34 hi0 hz0 hz1 _ _ _ _ xs.length rfl rfl rfl rfl (by rw [hz2]; omega) (by unfold maxLen; omega) (Nat.le_refl _) ?_)
  intro w1 hown hgrow
  obtain ⟨cur, hB, hs, ht, hn1, hn2⟩ := Blk.of_own hown
  have HB := Lib.hid hB; clear hB
  have HS : Hid (cur.size = xs.length * 2) := by show _ = _; omega
  have hbel : Below w.heap.size w w1 := (Below.refl _ _).grown hgrow (Nat.le_refl _) (by simp)
  have HL := Lib.hid hbel; clear hbel
  clear hs ht hn1 hn2 hgrow hown hi0 hz0 hz1 hz2
  go_wp2_with fail
  go_loopw [4] (fun s4 wr => ∃ (k : Nat) (cur : Array Value), k ≤ xs.length ∧ s4 = .int .i64 k ∧ Hid (Below w.heap.size w wr) ∧ Hid (Blk wr w.heap.size 105 cur) ∧ Hid (cur.size = xs.length * 2) ∧ Hid (Filled eRewrite wr w.heap.size (fun b => w.heap.size ≤ b) cur k xs)) (fun s4 _ => xs.length - (intOf s4).toNat)
  case atStart => exact ⟨0, cur, Nat.zero_le _, rfl, HL, HB, HS, Filled.zero⟩
  case round =>
    clear HB HS HL
    obtain ⟨k, cur, hk, rfl, HL, HB, HS, HF⟩ := hrel
    by_cases hlt : k < xs.length
    · have hltz : (k : Int) < (xs.length : Int) := by omega
      obtain ⟨b, off, es, rfl, hb, hR, hc⟩ := H.out.at hlt
      have HX : Hid (xs[k]? = some xs[k]) := List.getElem?_eq_getElem hlt
      have HR := Lib.hid (eRewrite.on hR HL.out)
      have HCS : Hid (cost_Rewrite xs[k] ≤ 1048576) := by have h1 := cost_mem cost_Rewrite xs k hlt; have h2 : cost_SRewrite xs = costL cost_Rewrite xs := rfl; have := HCO.out; show _ ≤ _; omega
      obtain ⟨Aq0, cq0, Aq1, cq1, rfl, gq0, gq1⟩ := shape_Rewrite hR
      have d0 : wr.cell? ⟨b, off + k * 2, none⟩ = some (.slice Aq0 xs[k].1.length cq0) := (below_olds HL.out _ hb).trans (hc 0 _ rfl)
      have d1 : wr.cell? ⟨b, off + k * 2 + 1, none⟩ = some (.slice Aq1 xs[k].2.length cq1) := (below_olds HL.out _ hb).trans (hc 1 _ rfl)
      clear hc gq0 gq1
      try clear hR
      obtain ⟨v0, hv0⟩ : ∃ v, cur[k * 2]? = some v := get_some (by have := HS.out; omega)
      obtain ⟨v1, hv1⟩ : ∃ v, cur[k * 2 + 1]? = some v := get_some (by have := HS.out; omega)
      have HV0 := Lib.hid hv0; clear hv0
      have HV1 := Lib.hid hv1; clear hv1
      generalize xs[k] = y at d0 d1 HX HR HCS
      go_wp2_with fail
      refine (to_Rewrite _ y _ HR.out HCS.out).mono ?_
      rintro e w2 ⟨es2, rfl, ho2, hb2⟩
      have hR2 := eRewrite.read ho2
      have HO2 := Lib.hid ho2; clear ho2
      obtain ⟨Ar0, cr0, Ar1, cr1, rfl, gr0, gr1⟩ := shape_Rewrite hR2
      clear gr0 gr1
      try clear hR2
      have hB2 := HB.out.on hb2
      have e0 : w2.cell? ⟨w.heap.size, k * 2, none⟩ = some v0 := (hB2.cell _).trans HV0.out
      have e1 : w2.cell? ⟨w.heap.size, k * 2 + 1, none⟩ = some v1 := (hB2.cell _).trans HV1.out
      have f0 := hB2.frozen (k * 2)
      have f1 := hB2.frozen (k * 2 + 1)
      have HB2 := Lib.hid hB2; clear hB2
      have HL2 := Lib.hid hb2; clear hb2
      go_wp2
      go_roundw
      case rel =>
        have hL := HL.out
        have hL2 := HL2.out
        have hbs : ∀ b, b ≠ w.heap.size → ∀ W : World, (∀ b, b ≠ w.heap.size → W.heap[b]? = w2.heap[b]?) → W.heap[b]? = w2.heap[b]? := fun b hb W h => h b hb
        have hW : ∀ b, b ≠ w.heap.size → ((w2.setCell ⟨w.heap.size, k * 2, none⟩ (.slice Ar0 y.1.length cr0)).setCell ⟨w.heap.size, k * 2 + 1, none⟩ (.slice Ar1 y.2.length cr1)).heap[b]? = w2.heap[b]? := fun b hb => by
          rw [Below.heap_setCell _ _ _ _ (by exact hb), Below.heap_setCell _ _ _ _ (by exact hb)]
        have hsz : ((w2.setCell ⟨w.heap.size, k * 2, none⟩ (.slice Ar0 y.1.length cr0)).setCell ⟨w.heap.size, k * 2 + 1, none⟩ (.slice Ar1 y.2.length cr1)).heap.size = w2.heap.size := by simp [World.setCell]
        refine ⟨k + 1, setAll cur (k * 2) [.slice Ar0 y.1.length cr0, .slice Ar1 y.2.length cr1], by omega, by go_num, (((hL.trans (hL2.mono hL.size)).setCell (Nat.le_refl _) _).setCell (Nat.le_refl _) _), ((HB2.out.set _ _).set _ _), (size_setAll _ _ _).trans HS.out, ?_⟩
        have hstep := (HF.out).step (w' := (w2.setCell ⟨w.heap.size, k * 2, none⟩ (.slice Ar0 y.1.length cr0)).setCell ⟨w.heap.size, k * 2 + 1, none⟩ (.slice Ar1 y.2.length cr1)) (T0 := Fr wr w2) (es := [.slice Ar0 y.1.length cr0, .slice Ar1 y.2.length cr1]) (fun b hb hlt => (hW b hb).trans (hL2.block b hlt)) (by rw [hsz]; exact hL2.size) HX.out
          (eRewrite.okeep HO2.out fun b hb => hW b (fun e => by have := HB.out.lt; have := hb.1; omega)) (fun b hb => ⟨Nat.le_trans hL.size hb.1, fun e => by have := HB.out.lt; have := hb.1; omega, hb.1, by rw [hsz]; exact hb.2⟩) (by have := HS.out; show (k + 1) * 2 ≤ _; omega)
        exact hstep
      case measure => simp [intOf]; omega
    · have hltz : ¬ (k : Int) < (xs.length : Int) := by omega
      obtain rfl : k = xs.length := by omega
      go_wp2
      go_ret
      exact ⟨_, _, rfl, HF.out.soFr HB.out (Nat.le_refl _) (by unfold maxLen; omega), HL.out⟩

theorem i64_small {x : Int} (h0 : 0 ≤ x) (h1 : x ≤ 1000000000000) : I64 x := ⟨by omega, by omega⟩

/-- How many numbers a list of elements takes. -/
def cntL {α : Type} (c : α → Nat) (xs : List α) : Nat := (xs.map c).sum

/-- The elements marked one after another from k on. -/
def mkL {α : Type} (f : α → Int → α) (c : α → Nat) : List α → Int → List α
  | [], _ => []
  | x :: xs, k => f x k :: mkL f c xs (k + c x)

theorem mkL_len {α : Type} (f : α → Int → α) (c : α → Nat) : ∀ (xs : List α) (k : Int), (mkL f c xs k).length = xs.length
  | [], _ => rfl
  | x :: xs, k => by rw [mkL, List.length_cons, mkL_len f c xs, List.length_cons]

theorem mkL_append {α : Type} (f : α → Int → α) (c : α → Nat) : ∀ (xs ys : List α) (k : Int), mkL f c (xs ++ ys) k = mkL f c xs k ++ mkL f c ys (k + cntL c xs)
  | [], ys, k => by simp [mkL, cntL]
  | x :: xs, ys, k => by
    rw [List.cons_append, mkL, mkL, mkL_append f c xs ys, List.cons_append]
    have : k + (c x : Int) + (cntL c xs : Int) = k + (cntL c (x :: xs) : Int) := by unfold cntL; simp only [List.map_cons, List.sum_cons]; omega
    rw [this]

theorem cntL_take {α : Type} (c : α → Nat) (xs : List α) (i : Nat) (h : i < xs.length) : cntL c (xs.take (i + 1)) = cntL c (xs.take i) + c xs[i] := costL_take c xs i h

theorem cntL_le {α : Type} (c : α → Nat) (xs : List α) (i : Nat) : cntL c (xs.take i) ≤ cntL c xs := cost_le c xs i

/-- What a marking loop has made after i rounds. -/
def mkTo {α : Type} (f : α → Int → α) (c : α → Nat) (xs : List α) (k : Int) (i : Nat) : List α := mkL f c (xs.take i) k ++ xs.drop i

theorem mkTo_zero {α : Type} (f : α → Int → α) (c : α → Nat) (xs : List α) (k : Int) : mkTo f c xs k 0 = xs := by simp [mkTo, mkL]

theorem mkTo_len {α : Type} (f : α → Int → α) (c : α → Nat) (xs : List α) (k : Int) (i : Nat) : (mkTo f c xs k i).length = xs.length := by
  unfold mkTo; rw [List.length_append, mkL_len, List.length_take, List.length_drop]; omega

theorem mkTo_end {α : Type} (f : α → Int → α) (c : α → Nat) (xs : List α) (k : Int) : mkTo f c xs k xs.length = mkL f c xs k := by simp [mkTo]

theorem mkTo_get {α : Type} (f : α → Int → α) (c : α → Nat) (xs : List α) (k : Int) (i : Nat) (h : i < xs.length) : (mkTo f c xs k i)[i]? = some xs[i] := by
  unfold mkTo
  rw [List.getElem?_append_right (by rw [mkL_len, List.length_take]; omega), mkL_len, List.length_take, List.getElem?_drop, show i + (i - min i xs.length) = i from by omega, List.getElem?_eq_getElem h]

theorem mkTo_step {α : Type} (f : α → Int → α) (c : α → Nat) (xs : List α) (k : Int) (i : Nat) (h : i < xs.length) : (mkTo f c xs k i).set i (f xs[i] (k + cntL c (xs.take i))) = mkTo f c xs k (i + 1) := by
  have hl : (mkL f c (xs.take i) k).length = i := by rw [mkL_len, List.length_take]; omega
  unfold mkTo
  rw [List.take_succ_eq_append_getElem h, mkL_append, List.drop_eq_getElem_cons h, List.set_append_right _ _ (by omega), hl, Nat.sub_self, List.set_cons_zero]
  simp [mkL]

theorem mkL_get {α : Type} (f : α → Int → α) (c : α → Nat) (xs : List α) (k : Int) (i : Nat) (h : i < xs.length) : (mkL f c xs k)[i]? = some (f xs[i] (k + cntL c (xs.take i))) := by
  have h1 : mkL f c xs k = mkL f c (xs.take i) k ++ mkL f c (xs.drop i) (k + cntL c (xs.take i)) := by rw [← mkL_append, List.take_append_drop]
  have hl : (mkL f c (xs.take i) k).length = i := by rw [mkL_len, List.length_take]; omega
  rw [h1, List.getElem?_append_right (by omega), hl, Nat.sub_self, List.drop_eq_getElem_cons h]
  rfl

def mk_i (_ : Int) (k : Int) : Int := k

def ct_i (_ : Int) : Nat := 1

def mk_L (xs : List Int) (k : Int) : List Int := mkL mk_i ct_i xs k

def ct_L (xs : List Int) : Nat := cntL ct_i xs

/-- As an element of a slice: every field is marked. -/
def mk_Rewrite (x : tRewrite) (k : Int) : tRewrite := (mk_L x.1 (k), mk_L x.2 (k + ct_L x.1))

def ct_Rewrite (x : tRewrite) : Nat := ct_L x.1 + ct_L x.2

def mk_SRewrite (xs : List tRewrite) (k : Int) : List tRewrite := mkL mk_Rewrite ct_Rewrite xs k

def ct_SRewrite (xs : List tRewrite) : Nat := cntL ct_Rewrite xs

set_option maxHeartbeats 1000000 in
theorem mark_L_c (A : Option Addr) (c : Nat) (xs : List Int) (k : Int) (w : World) (S : Nat → Prop) (h : So eInt w S A c xs) (_hS : ∀ b, S b → b < w.heap.size) (hk : 0 ≤ k) (hk' : k + (ct_L xs : Int) ≤ 1000000000000) :
    Calls Try.prog 34 #[.slice A xs.length c, .int .i64 k] w fun e w' => e = .returned (.int .i64 (k + (ct_L xs : Int))) ∧ So eInt w' S A c (mk_L xs k) ∧ Chg S w w' := by
  have hlen := h.sl.len
  clear _hS
  have H := Lib.hid h; clear h
  have HC : Hid (ct_L xs = cntL ct_i xs) := rfl
  go_enter Try.func34, Try.ntmps34
  go_wp2
  go_loopw [1, 5] (fun s1 s5 wr => ∃ (i : Nat) (q : Int), i ≤ xs.length ∧ s5 = .int .i64 i ∧ s1 = .int .i64 q ∧ 0 ≤ q ∧ q ≤ 1000000000000 ∧ Hid (q = k + (cntL ct_i (xs.take i) : Int)) ∧ Hid (So eInt wr S A c (mkTo mk_i ct_i xs k i)) ∧ Hid (Chg S w wr)) (fun _ s5 _ => xs.length - (intOf s5).toNat)
  case atStart => exact ⟨0, k, Nat.zero_le _, rfl, rfl, hk, by omega, by show _ = _; simp [cntL], by show So _ _ _ _ _ _; rw [mkTo_zero]; exact H.out, Chg.refl _ _⟩
  case round =>
    obtain ⟨i, q, hi, rfl, rfl, hq0, hq1, HQ, HS, HG⟩ := hrel
    by_cases hlt : i < xs.length
    · have hltz : (i : Int) < (xs.length : Int) := by omega
      have HQ2 : Hid (q + 1 ≤ 1000000000000 ∧ q + 1 = k + (cntL ct_i (xs.take (i + 1)) : Int)) := by
        have h1 := cntL_take ct_i xs i hlt
        have h2 := cntL_le ct_i xs (i + 1)
        have h3 : ct_i xs[i] = 1 := rfl
        have h4 := HQ.out
        have h5 := HC.out
        refine ⟨?_, ?_⟩ <;> omega
      have hq2 := HQ2.out.1
      obtain ⟨b, off, t, cur, T, es, rfl, hSb, hB, hT, hO, hcells, hre⟩ := HS.out.at (k := i) (by rw [mkTo_len]; exact hlt)
      have hel := eInt.len (eInt.read hO)
      obtain ⟨v0, hv0⟩ : ∃ v, cur[off + i]? = some v := ⟨_, by have h := hcells 0 _ (List.getElem?_eq_getElem (by rw [hel]; decide)); rw [show off + i * eInt.size + 0 = off + i from by show off + i * 1 + 0 = _; omega] at h; exact h⟩
      have e0 : wr.cell? ⟨b, off + i, none⟩ = some v0 := (hB.cell _).trans hv0
      have f0 := hB.frozen (off + i)
      clear hv0
      have HB := Lib.hid hB; clear hB hcells hel
      have HRE : Hid (So eInt (wr.setCell ⟨b, off + i, none⟩ (.int .i64 (q))) S (some ⟨b, off, none⟩) c (mkTo mk_i ct_i xs k (i + 1))) := by
        show So _ _ _ _ _ _
        rw [← mkTo_step mk_i ct_i xs k i hlt, ← HQ.out]
        refine hre _ [.int .i64 (q)] _ (oI (i64_small (by omega) (by omega))) ?_ (fun m hm hne _ => ?_)
        · rw [show off + i * eInt.size = off + i from by show off + i * 1 = _; omega]; exact HB.out.set _ _
        · rw [Below.heap_setCell _ _ _ _ (by exact hne)]
      clear hre hO hT
      have HG2 : Hid (Chg S w (wr.setCell ⟨b, off + i, none⟩ (.int .i64 (q)))) := (HG.out.set (by exact hSb) _)
      have HSB := Lib.hid hSb; clear hSb
      go_wp2
      go_roundw
      case rel => exact ⟨i + 1, q + 1, by omega, by go_num, rfl, by omega, by omega, by show _ = _; have := HQ2.out.2; omega, HRE.out, HG2.out⟩
      case measure => simp [intOf]; omega
    · have hltz : ¬ (i : Int) < (xs.length : Int) := by omega
      obtain rfl : i = xs.length := by omega
      have h2 := HQ.out
      rw [List.take_length] at h2
      have h3 := HS.out
      rw [mkTo_end] at h3
      have H2 := Lib.hid h2; have H3 := Lib.hid h3; clear h2 h3
      go_wp2
      go_ret
      exact ⟨ret_int (by rw [H2.out, HC.out]), H3.out, HG.out⟩

set_option maxHeartbeats 1000000 in
theorem held_L_c (A : Option Addr) (c : Nat) (xs : List Int) (k : Int) (w : World) (h : Sl eInt w (Old w) A c (mk_L xs k)) (hk : 0 ≤ k) (hk' : k + (ct_L xs : Int) ≤ 1000000000000) :
    Calls Try.prog 46 #[.slice A xs.length c, .int .i64 k] w fun e w' => e = .returned (.int .i64 (k + (ct_L xs : Int))) ∧ Below w.heap.size w w' := by
  have hlen := h.len
  have hL : (mk_L xs k).length = xs.length := mkL_len _ _ _ _
  rw [hL] at hlen
  have HLen := Lib.hid hL; clear hL
  have H := Lib.hid h; clear h
  have HC : Hid (ct_L xs = cntL ct_i xs) := rfl
  go_enter Try.func46, Try.ntmps46
  go_wp2
  go_loop [1, 5] (fun s1 s5 => ∃ (i : Nat) (q : Int), i ≤ xs.length ∧ s5 = .int .i64 i ∧ s1 = .int .i64 q ∧ 0 ≤ q ∧ q ≤ 1000000000000 ∧ Hid (q = k + (cntL ct_i (xs.take i) : Int))) (fun _ s5 => xs.length - (intOf s5).toNat)
  case atStart => exact ⟨0, k, Nat.zero_le _, rfl, rfl, hk, by omega, by show _ = _; simp [cntL]⟩
  case round =>
    obtain ⟨i, q, hi, rfl, rfl, hq0, hq1, HQ⟩ := hrel
    by_cases hlt : i < xs.length
    · have hltz : (i : Int) < (xs.length : Int) := by omega
      have HQ2 : Hid (q + 1 ≤ 1000000000000 ∧ q + 1 = k + (cntL ct_i (xs.take (i + 1)) : Int)) := by
        have h1 := cntL_take ct_i xs i hlt
        have h2 := cntL_le ct_i xs (i + 1)
        have h3 : ct_i xs[i] = 1 := rfl
        have h4 := HQ.out
        have h5 := HC.out
        refine ⟨?_, ?_⟩ <;> omega
      have hq2 := HQ2.out.1
      have hlt2 : i < (mk_L xs k).length := by rw [HLen.out]; exact hlt
      have HE : Hid ((mk_L xs k)[i] = mk_i xs[i] q) := by
        have h1 := mkL_get mk_i ct_i xs k i hlt
        rw [← HQ.out] at h1
        exact Option.some.inj ((List.getElem?_eq_getElem hlt2).symm.trans h1)
      obtain ⟨b, off, es, rfl, hb, hR, hc⟩ := H.out.at1 rfl hlt2
      rw [HE.out] at hR
      obtain ⟨rfl, gq⟩ := hR
      have d0 : w.cell? ⟨b, off + i, none⟩ = some (.int .i64 q) := hc _ rfl
      have t0 : (q != q) = false := by simp
      clear hc gq
      try clear hR
      go_wp2
      go_round
      case rel => exact ⟨i + 1, q + 1, by omega, by go_num, rfl, by omega, by omega, by show _ = _; have := HQ2.out.2; omega⟩
      case measure => simp [intOf]; omega
    · have hltz : ¬ (i : Int) < (xs.length : Int) := by omega
      obtain rfl : i = xs.length := by omega
      have h2 := HQ.out
      rw [List.take_length] at h2
      have H2 := Lib.hid h2; clear h2
      go_wp2
      go_ret
      exact ⟨ret_int (by rw [H2.out, HC.out]), Below.refl _ _⟩

theorem cntL_const {α : Type} (c : α → Nat) (n : Nat) (xs : List α) (h : ∀ x, c x = n) : cntL c xs = n * xs.length := by
  unfold cntL
  induction xs with
  | nil => simp
  | cons x xs ih => rw [List.map_cons, List.sum_cons, ih, h, List.length_cons, Nat.mul_succ]; omega

/-- A slice of the call's own, from block `base` on, holding flat elements. -/
def Row {α : Type} (E : Enc α) (enc : α → List Value) (t : TypeId) (w : World) (base : Nat) (v : Value) (xs : List α) : Prop :=
  w.ownsRow base t E.size v xs.length (xs.flatMap enc) ∧ ∀ x ∈ xs, ∀ W : World, E.O W (fun _ => False) (enc x) x

theorem flat_get {α : Type} (enc : α → List Value) (s : Nat) : ∀ (xs : List α), (∀ x ∈ xs, (enc x).length = s) → ∀ (i : Nat) (x : α), xs[i]? = some x → ∀ j, j < s → (xs.flatMap enc)[i * s + j]? = (enc x)[j]?
  | [], _, i, x, hx, _, _ => by simp at hx
  | y :: ys, h, 0, x, hx, j, hj => by
    simp at hx; subst hx
    rw [List.flatMap_cons, Nat.zero_mul, Nat.zero_add, List.getElem?_append_left (by rw [h y (by simp)]; exact hj)]
  | y :: ys, h, i + 1, x, hx, j, hj => by
    have hy := h y (by simp)
    rw [List.flatMap_cons, Nat.succ_mul, List.getElem?_append_right (by rw [hy]; omega), hy, show i * s + s + j - s = i * s + j from by omega]
    exact flat_get enc s ys (fun z hz => h z (by simp [hz])) i x (by simpa using hx) j hj

theorem Row.so {α : Type} {E : Enc α} {enc : α → List Value} {t : TypeId} {w0 w : World} {v : Value} {xs : List α} (h : Row E enc t w w0.heap.size v xs) : ∃ A c, v = .slice A xs.length c ∧ So E w (Fr w0 w) A c xs := by
  obtain ⟨h1, h2⟩ := h
  rcases h1.2 with ⟨rfl, hn⟩ | ⟨g, cap, cur, rfl, hg, hh, hnc, hcm, hcs, htk⟩
  · have hx : xs = [] := List.eq_nil_of_length_eq_zero hn
    subst hx
    exact ⟨none, 0, rfl, So.nil (Nat.zero_le _)⟩
  · refine ⟨_, cap, rfl, hnc, hcm, fun hne => ⟨g, 0, t, cur, fun _ _ => False, rfl, ⟨hg, Blk.lt (t := t) (cur := cur) hh⟩, hh, fun _ _ h => h.elim, fun _ _ _ h => h.elim, fun i x hx => ⟨enc x, h2 x (List.mem_of_getElem? hx) w, fun j u hu => ?_⟩⟩⟩
    have hi := (List.getElem?_eq_some_iff.1 hx).1
    have hj := (List.getElem?_eq_some_iff.1 hu).1
    have hl : ∀ y ∈ xs, (enc y).length = E.size := fun y hy => E.len (E.read (h2 y hy w))
    rw [hl x (List.mem_of_getElem? hx)] at hj
    have h3 := flat_get enc E.size xs hl i x hx j hj
    rw [← htk] at h3
    have hlt : i * E.size + j < xs.length * E.size := by
      have : (i + 1) * E.size ≤ xs.length * E.size := Nat.mul_le_mul_right _ (by omega)
      rw [Nat.succ_mul] at this; omega
    rw [List.getElem?_take_of_lt hlt, Array.getElem?_toList] at h3
    rw [Nat.zero_add, h3]; exact hu

theorem Row.nil {α : Type} {E : Enc α} {enc : α → List Value} {t : TypeId} {w : World} {base : Nat} : Row E enc t w base (.slice none 0 0) [] := ⟨World.ownsRow_nil _ _ _ _, fun _ h => by simp at h⟩

/-- `[]T{}`: an empty row of its own. -/
theorem Row.empty {α : Type} {E : Enc α} {enc : α → List Value} {t : TypeId} {w : World} {base : Nat} (hb : base ≤ w.heap.size) : Row E enc t (w.alloc (.cells #[] t)) base (.slice (some ⟨w.heap.size, 0, none⟩) 0 0) [] :=
  ⟨⟨by simp, .inr ⟨_, 0, #[], rfl, hb, Blk.new w t #[], Nat.le_refl _, Nat.zero_le _, by simp, by simp⟩⟩, fun _ h => by simp at h⟩

def encInt (x : Int) : List Value := [.int .i64 x]

theorem Row.keep {α : Type} {E : Enc α} {enc : α → List Value} {t : TypeId} {w w' : World} {base : Nat} {v : Value} {xs : List α} (h : Row E enc t w base v xs) (hk : ∀ b, v.ownBlock = some b → w'.heap[b]? = w.heap[b]?) : Row E enc t w' base v xs := by
  obtain ⟨⟨h1, h2⟩, h3⟩ := h
  refine ⟨⟨h1, ?_⟩, h3⟩
  rcases h2 with h2 | ⟨g, cap, cur, rfl, hg, hh, r⟩
  · exact .inl h2
  · exact .inr ⟨g, cap, cur, rfl, hg, (hk g rfl).trans hh, r⟩

theorem Row.lt {α : Type} {E : Enc α} {enc : α → List Value} {t : TypeId} {w : World} {base : Nat} {v : Value} {xs : List α} (h : Row E enc t w base v xs) : ∀ b, v.ownBlock = some b → base ≤ b ∧ b < w.heap.size := h.1.lt

theorem Row.on {α : Type} {E : Enc α} {enc : α → List Value} {t : TypeId} {w w' : World} {base : Nat} {v : Value} {xs : List α} (h : Row E enc t w base v xs) (hb : Below w.heap.size w w') : Row E enc t w' base v xs := h.keep fun b hv => hb.block b (h.lt b hv).2

theorem Row.snoc {α : Type} {E : Enc α} {enc : α → List Value} {t : TypeId} {w w' : World} {base : Nat} {v v' : Value} {xs : List α} {x : α} (h : Row E enc t w base v xs) (ho : w'.ownsRow base t E.size v' (xs.length + 1) (xs.flatMap enc ++ enc x)) (hx : ∀ W : World, E.O W (fun _ => False) (enc x) x) : Row E enc t w' base v' (xs ++ [x]) := by
  refine ⟨?_, fun y hy => ?_⟩
  · rw [List.length_append, List.length_singleton, List.flatMap_append]
    simpa using ho
  · rcases List.mem_append.1 hy with h1 | h1
    · exact h.2 y h1
    · rw [List.mem_singleton.1 h1]; exact hx

/-- Elements whose cells lead nowhere. -/
structure Flat {α : Type} (E : Enc α) (enc : α → List Value) : Prop where
  r : ∀ {W : World} {S : Nat → Prop} {cs : List Value} {x : α}, E.R W S cs x → cs = enc x ∧ ∀ W' : World, E.O W' (fun _ => False) (enc x) x
  one : ∀ (x : α), ∀ u ∈ enc x, u.oneCell' = true

theorem flat_int : Flat eInt encInt := ⟨fun h => ⟨h.1, fun _ => ⟨rfl, h.2⟩⟩, fun x u hu => by simp [encInt] at hu; subst hu; rfl⟩

theorem flatMap_at {α : Type} (enc : α → List Value) (s : Nat) (hs : 0 < s) : ∀ (ys : List α), (∀ y ∈ ys, (enc y).length = s) → ∀ (j : Nat) (u : Value), (ys.flatMap enc)[j]? = some u → ∃ y, ys[j / s]? = some y ∧ (enc y)[j % s]? = some u
  | [], _, j, u, h => by simp at h
  | y :: ys, hl, j, u, h => by
    have hy := hl y (by simp)
    rw [List.flatMap_cons] at h
    by_cases hj : j < s
    · rw [List.getElem?_append_left (by omega)] at h
      exact ⟨y, by rw [Nat.div_eq_of_lt hj]; rfl, by rw [Nat.mod_eq_of_lt hj]; exact h⟩
    · rw [List.getElem?_append_right (by omega), hy] at h
      obtain ⟨z, h1, h2⟩ := flatMap_at enc s hs ys (fun z hz => hl z (by simp [hz])) (j - s) u h
      refine ⟨z, ?_, ?_⟩
      · rw [Nat.div_eq_sub_div hs (by omega), List.getElem?_cons_succ]; exact h1
      · rw [Nat.mod_eq_sub_mod (by omega)]; exact h2

theorem flatMap_len {α : Type} (enc : α → List Value) (s : Nat) (ys : List α) (h : ∀ y ∈ ys, (enc y).length = s) : (ys.flatMap enc).length = ys.length * s := by
  induction ys with
  | nil => simp
  | cons y ys ih => rw [List.flatMap_cons, List.length_append, ih (fun z hz => h z (by simp [hz])), h y (by simp), List.length_cons, Nat.succ_mul]; omega

theorem Flat.sl {α : Type} {E : Enc α} {enc : α → List Value} (hf : Flat E enc) {w : World} {S : Nat → Prop} {A : Option Addr} {c : Nat} {ys : List α} (h : Sl E w S A c ys) : ∀ y ∈ ys, ∀ W : World, E.O W (fun _ => False) (enc y) y := by
  intro y hy
  obtain ⟨i, hi, rfl⟩ := List.getElem_of_mem hy
  obtain ⟨b, off, es, _, _, h1, _⟩ := h.at hi
  exact (hf.r h1).2

theorem Flat.len {α : Type} {E : Enc α} {enc : α → List Value} {y : α} (h : ∀ W : World, E.O W (fun _ => False) (enc y) y) : (enc y).length = E.size := E.len (E.read (h default))

theorem Flat.cells {α : Type} {E : Enc α} {enc : α → List Value} (hf : Flat E enc) {w : World} {S : Nat → Prop} {b off : Nat} {c : Nat} {ys : List α} (h : Sl E w S (some ⟨b, off, none⟩) c ys) : ∀ j u, (ys.flatMap enc)[j]? = some u → w.cell? ((⟨b, off, none⟩ : Addr).add j) = some u := by
  intro j u hu
  obtain ⟨y, h1, h2⟩ := flatMap_at enc E.size E.pos ys (fun y hy => Flat.len (hf.sl h y hy)) j u hu
  have hi := (List.getElem?_eq_some_iff.1 h1).1
  obtain ⟨b', off', es, hA, _, h3, h4⟩ := h.at hi
  simp only [Option.some.injEq, Addr.mk.injEq, and_true] at hA
  obtain ⟨rfl, rfl⟩ := hA
  have hy : ys[j / E.size] = y := (List.getElem?_eq_some_iff.1 h1).2
  rw [hy] at h3
  rw [(hf.r h3).1] at h4
  have := h4 (j % E.size) u h2
  rw [show off + j / E.size * E.size + j % E.size = off + j from by rw [Nat.add_assoc, Nat.div_add_mod']] at this
  rw [Addr.add_lit]; exact this

/-- The facts on a type of elements that an append wants. -/
structure Elem {α : Type} (P : Program) (E : Enc α) (t e : TypeId) (bytes : Nat) : Prop where
  under : P.underlying t = some (.slice e)
  info : ∃ i z, P.info? e = some i ∧ i.zero = some z ∧ i.size = E.size ∧ i.bytes = bytes ∧ z.cells.size = E.size

theorem Row.all {α : Type} {E : Enc α} {enc : α → List Value} {t : TypeId} {w : World} {base : Nat} {v : Value} {xs ys : List α} (h : Row E enc t w base v xs) {w' : World} {v' : Value} (ho : w'.ownsRow base t E.size v' (xs.length + ys.length) (xs.flatMap enc ++ ys.flatMap enc)) (hy : ∀ y ∈ ys, ∀ W : World, E.O W (fun _ => False) (enc y) y) : Row E enc t w' base v' (xs ++ ys) := by
  refine ⟨by rw [List.length_append, List.flatMap_append]; exact ho, fun y hm => ?_⟩
  rcases List.mem_append.1 hm with h1 | h1
  · exact h.2 y h1
  · exact hy y h1

theorem Row.shape {α : Type} {E : Enc α} {enc : α → List Value} {t : TypeId} {w : World} {base : Nat} {v : Value} {xs : List α} (h : Row E enc t w base v xs) : ∃ A c, v = .slice A xs.length c ∧ xs.length ≤ c ∧ c ≤ maxLen := by
  rcases h.1.2 with ⟨rfl, hn⟩ | ⟨g, cap, cur, rfl, hg, hh, hnc, hcm, _⟩
  · exact ⟨none, 0, by rw [hn], by omega, Nat.zero_le _⟩
  · exact ⟨_, cap, rfl, hnc, hcm⟩

theorem run_append_row {α : Type} {P : Program} {E : Enc α} {enc : α → List Value} (hf : Flat E enc) {t e : TypeId} {bytes : Nat} (he : Elem P E t e bytes) (ty : TypeId) {w : World} {base : Nat} {v : Value} {xs ys : List α} (hR : Row E enc e w base v xs)
    {S : Nat → Prop} {A : Option Addr} {c : Nat} (hS : Sl E w S A c ys) (h63 : xs.length + ys.length ≤ maxLen) (hbytes : (xs.length + ys.length) * bytes ≤ 140737488355328) (hbase : base ≤ w.heap.size) :
    ∃ v' w', (Builtin.append_ #[t, t] ty #[v, .slice A ys.length c]).run P w = .ok v' w' ∧ Row E enc e w' base v' (xs ++ ys) ∧ w.grownBy w' v.ownBlock ∧ (v'.ownBlock = v.ownBlock ∨ v'.ownBlock = some w.heap.size) := by
  obtain ⟨i, z, hi, hz0, hz1, hz2, hz3⟩ := he.info
  have hlen : ∀ y ∈ ys, (enc y).length = E.size := fun y hy => Flat.len (hf.sl hS y hy)
  cases A with
  | none =>
    have hy : ys = [] := Classical.byContradiction fun hn => by
      obtain ⟨b, off, hA, _⟩ := hS.2.2 hn
      cases hA
    subst hy
    obtain ⟨A', c', rfl, hle, _⟩ := hR.shape
    refine ⟨_, w, run_append_nothing w t t ty e i he.under hi A' xs.length c' hle (.slice none 0 c) (Src.ofNil w he.under c), by rw [List.append_nil]; exact hR, World.grownBy.refl _ _, .inl rfl⟩
  | some ad =>
    obtain ⟨b, off, sp⟩ := ad
    by_cases hn : ys = []
    · subst hn
      obtain ⟨v', w', h1, h2, h3, h4, h5⟩ := run_append_own_at (P := P) w base t ty e i z E.size bytes he.under hi hz0 hz1 hz2 hz3 E.pos v xs.length (xs.flatMap enc) hR.1 ⟨b, off, sp⟩ 0 c [] (by simp) (fun j u h => by simp at h) (fun u h => by simp at h) h63 hbytes hbase
      exact ⟨v', w', h1, hR.all h2 (fun y hy => by simp at hy), h3, h5⟩
    · obtain ⟨b', off', hA, _⟩ := hS.2.2 hn
      simp only [Option.some.injEq, Addr.mk.injEq] at hA
      obtain ⟨rfl, rfl, rfl⟩ := hA
      obtain ⟨v', w', h1, h2, h3, h4, h5⟩ := run_append_own_at (P := P) w base t ty e i z E.size bytes he.under hi hz0 hz1 hz2 hz3 E.pos v xs.length (xs.flatMap enc) hR.1 ⟨b, off, none⟩ ys.length c (ys.flatMap enc) (flatMap_len enc E.size ys hlen) (hf.cells hS)
        (fun u hu => by obtain ⟨y, _, h⟩ := List.mem_flatMap.1 hu; exact hf.one y u h) h63 hbytes hbase
      exact ⟨v', w', h1, hR.all h2 (hf.sl hS), h3, h5⟩

theorem wpList_append_row {α : Type} {P : Program} {E : Enc α} {enc : α → List Value} (hf : Flat E enc) {t e : TypeId} {bytes : Nat} (he : Elem P E t e bytes) {ops : Array Oper} {rest : List Oper} {o : Oper} {a : Act} {Q : Exit → Act → World → Prop} {w : World} (hgd : o.guard = none) (s x : Operand)
    (ho : o.op = .call { callee := .builtin .append, args := #[s, x], argTypes := #[t, t] }) {base : Nat} {v : Value} {xs ys : List α} (hs : a.eval s = v) (hR : Row E enc e w base v xs)
    {S : Nat → Prop} {A : Option Addr} {c : Nat} (hx : a.eval x = .slice A ys.length c) (hS : Sl E w S A c ys) (h63 : xs.length + ys.length ≤ maxLen) (hbytes : (xs.length + ys.length) * bytes ≤ 140737488355328) (hbase : base ≤ w.heap.size)
    (h : ∀ v' w', Row E enc e w' base v' (xs ++ ys) → w.grownBy w' v.ownBlock → (v'.ownBlock = v.ownBlock ∨ v'.ownBlock = some w.heap.size) → wpList P ops Q rest (a.put o.dst v') w') :
    wpList P ops Q (o :: rest) a w := by
  refine wpList_plain hgd fun K hK => ?_
  obtain ⟨v', w', hr, h2, h3, h4⟩ := run_append_row hf he o.type hR hS h63 hbytes hbase
  unfold Oper.wp execOp
  simp only [ho, resolve, invoke, builtin, Sem.run_bind, Sem.run_pure, Result.andThen_ok, List.map_toArray, List.map_cons, List.map_nil, hs, hx, hr]
  exact hK _ _ (h v' w' h2 h3 h4)

theorem So.take {α : Type} {E : Enc α} {w : World} {S : Nat → Prop} {A : Option Addr} {c : Nat} {xs : List α} (h : So E w S A c xs) (k : Nat) : So E w S A c (xs.take k) :=
  ⟨by have := h.1; rw [List.length_take]; omega, h.2.1, fun hn => by
    obtain ⟨b, off, t, cur, T, hA, hb, hB, hT, hd, hc⟩ := h.2.2 (by rintro rfl; simp at hn)
    refine ⟨b, off, t, cur, T, hA, hb, hB, hT, hd, fun i x hx => hc i x ?_⟩
    rw [List.getElem?_take] at hx
    split at hx
    · exact hx
    · cases hx⟩

theorem Sl.take {α : Type} {E : Enc α} {w : World} {S : Nat → Prop} {A : Option Addr} {c : Nat} {xs : List α} (h : Sl E w S A c xs) (k : Nat) : Sl E w S A c (xs.take k) :=
  ⟨by have := h.1; rw [List.length_take]; omega, h.2.1, fun hn => by
    obtain ⟨b, off, hA, hb, hc⟩ := h.2.2 (by rintro rfl; simp at hn)
    refine ⟨b, off, hA, hb, fun i x hx => hc i x ?_⟩
    rw [List.getElem?_take] at hx
    split at hx
    · exact hx
    · cases hx⟩

def evp (L : List (Nat × Value)) : List (Nat × Operand) → Option (List (Nat × Value))
  | [] => some []
  | (i, x) :: xs => match ev L x, evp L xs with
    | some v, some vs => some ((i, v) :: vs)
    | _, _ => none

theorem evp_map {n : Nat} {L : List (Nat × Value)} {a : Act} (hE : Env n L a) : ∀ (xs : List (Nat × Operand)) (vs : List (Nat × Value)), evp L xs = some vs → (xs.map fun p => (p.1, a.eval p.2)) = vs
  | [], vs, h => by simp [evp] at h; subst h; rfl
  | (i, x) :: xs, vs, h => by
    simp only [evp] at h
    cases h1 : ev L x with
    | none => simp [h1] at h
    | some v =>
      cases h2 : evp L xs with
      | none => simp [h1, h2] at h
      | some us =>
        simp [h1, h2] at h
        subst h
        rw [List.map_cons, hE.ev h1, evp_map hE xs us h2]

def setP (cs : List Value) : List (Nat × Value) → List Value
  | [] => cs
  | p :: r => setP (cs.set p.1 p.2) r

theorem one_cells {v : Value} (h : v.oneCell' = true) : v.cells = #[v] := by cases v <;> first | rfl | (simp [Value.oneCell'] at h)

theorem fill_one {pl : Array (Nat × Nat)} {m : Nat} (hp : ∀ i, i < m → pl[i]? = some (i, 1)) : ∀ (vs : List (Nat × Value)) (cs : List Value), cs.length = m → (∀ p ∈ vs, p.1 < m ∧ p.2.oneCell' = true) → Instr.fill (fun i => pl[i]?) cs.toArray vs = some (setP cs vs).toArray
  | [], cs, _, _ => rfl
  | p :: r, cs, hl, h => by
    obtain ⟨i, v⟩ := p
    have hi := h (i, v) (by simp)
    have ih := fill_one hp r (cs.set i v) (by simpa using hl) (fun q hq => h q (by simp [hq]))
    have h2 : i + 1 ≤ cs.length := by have := hi.1; omega
    have h3 : ¬ (cs.toArray.size < i + 1) := by simp; omega
    simp only [Instr.fill, hp i hi.1, one_cells hi.2]
    simp [setP, ← ih, h3, h2]
    intro h4; omega

/-- What is known of a struct type whose fields take a cell each. -/
structure TB (P : Program) (t : TypeId) (zs : List Value) : Prop where
  tv : TV P t true zs
  under : ∃ fs pl, P.underlying t = some (.struct fs) ∧ (∀ w, (fs.mapM fun (f : Field) => (do pure (f.offset, ← sizeOf f.type) : Sem (Nat × Nat))).run P w = .ok pl w) ∧ ∀ i, i < zs.length → pl[i]? = some (i, 1)

theorem x_build {P : Program} {S : World → Prop} {L : List (Nat × Value)} {d : Option Tmp} {t : TypeId} {ps : List (Nat × Operand)} {vs : List (Nat × Value)} {zs : List Value} {ty : TypeId} {pos : String} {af : Array Edge} {g : Option (Nat × Bool)} (ht : TB P t zs) (he : evp L ps = some vs) (hv : ∀ p ∈ vs, p.1 < zs.length ∧ p.2.oneCell' = true) : XS P S L ⟨d, .build t ps.toArray, ty, pos, af, g⟩ (.agg (setP zs vs).toArray) := fun _ a w hE _ => by
  obtain ⟨fs, pl, h1, h2, h3⟩ := ht.under
  obtain ⟨i, z, e1, e2, e3, e4⟩ := ht.tv.info
  have hf := fill_one h3 vs zs rfl hv
  have hm := evp_map hE ps vs he
  have hz : (zeroValue t).run P w = .ok z w := by simp [zeroValue, typeInfo, e1, e2]
  simp only [execOp, Instr.build, List.map_toArray, hm, Sem.run_bind, hz, Result.andThen_ok, run_underlying h1, h2 w, e4]
  simp [hf]

theorem foldl_setAll (off : Nat) : ∀ (vs : List Value) (k : Nat) (cs : Array Value), (vs.zipIdx k).foldl (fun cs (p : Value × Nat) => cs.setIfInBounds (off + p.2) p.1) cs = setAll cs (off + k) vs
  | [], _, _ => rfl
  | v :: vs, k, cs => by
    rw [List.zipIdx_cons, List.foldl_cons, foldl_setAll off vs (k + 1)]
    rfl

theorem setAll_split (pre mid post vs : List Value) (h : mid.length = vs.length) : setAll (pre ++ mid ++ post).toArray pre.length vs = (pre ++ vs ++ post).toArray := by
  apply Array.ext_getElem?
  intro i
  rw [get_setAll _ _ _ _ (by simp; omega)]
  by_cases h1 : pre.length ≤ i ∧ i < pre.length + vs.length
  · rw [if_pos h1]
    simp only [List.getElem?_toArray]
    rw [List.append_assoc, List.getElem?_append_right h1.1, List.getElem?_append_left (by omega)]
  · rw [if_neg h1]
    simp only [List.getElem?_toArray, List.append_assoc]
    by_cases h2 : i < pre.length
    · rw [List.getElem?_append_left h2, List.getElem?_append_left h2]
    · rw [List.getElem?_append_right (by omega), List.getElem?_append_right (by omega), List.getElem?_append_right (by omega), List.getElem?_append_right (by omega), h]

def numb (j : Nat) : List Value → List (Nat × Value)
  | [] => []
  | v :: vs => (j, v) :: numb (j + 1) vs

theorem fill_all (sz : Nat) : ∀ (vs : List Value) (j : Nat) (pre post : List Value), pre.length = j * sz → post.length = vs.length * sz → (∀ v ∈ vs, v.cells.size = sz) → Instr.fill (fun i => some (i * sz, sz)) (pre ++ post).toArray (numb j vs) = some (pre ++ (vs.map fun v => v.cells.toList).flatten).toArray
  | [], j, pre, post, _, h2, _ => by
    have : post = [] := List.eq_nil_of_length_eq_zero (by simpa using h2)
    subst this; simp [numb, Instr.fill]
  | v :: vs, j, pre, post, h1, h2, h3 => by
    have hv := h3 v (by simp)
    rw [List.length_cons, Nat.succ_mul] at h2
    have hsp : post = post.take sz ++ post.drop sz := (List.take_append_drop sz post).symm
    have hl : (post.take sz).length = v.cells.toList.length := by rw [List.length_take]; simp [hv]; omega
    have hset := setAll_split pre (post.take sz) (post.drop sz) v.cells.toList hl
    have ih := fill_all sz vs (j + 1) (pre ++ v.cells.toList) (post.drop sz) (by simp [h1, hv, Nat.succ_mul]) (by rw [List.length_drop]; omega) (fun u hu => h3 u (by simp [hu]))
    have hfold : v.cells.zipIdx.foldl (fun cs (p : Value × Nat) => cs.setIfInBounds (j * sz + p.2) p.1) (pre ++ post).toArray = (pre ++ v.cells.toList ++ post.drop sz).toArray := by
      rw [← Array.foldl_toList, Array.toList_zipIdx, foldl_setAll, Nat.add_zero, ← h1, ← hset, List.append_assoc, ← hsp]
    have hle : ¬ ((pre ++ post).toArray.size < j * sz + sz) := by simp; omega
    have hc : (v.cells.size ≠ sz || decide (j * sz + v.cells.size > (pre ++ post).toArray.size)) = false := by
      rw [hv]; simp; omega
    simp only [numb, Instr.fill]
    rw [if_neg (by rw [hc]; simp)]
    rw [show (v.cells.zipIdx.foldl (fun cs x => match x with | (c, j_1) => cs.setIfInBounds (j * sz + j_1) c) (pre ++ post).toArray) = (pre ++ v.cells.toList ++ post.drop sz).toArray from hfold, ih]
    simp

/-- A slice literal, all of its elements given. -/
theorem run_lit {P : Program} {n m : Nat} {a : Act} {L : List (Nat × Value)} {w : World} {t e : TypeId} {sz by_ : Nat} {ps : List (Nat × Operand)} {vs : List Value} {cs : List Value} {d : Option Tmp} {ty : TypeId} {pos : String} {af : Array Edge} {g : Option (Nat × Bool)} (hT : TSl P t e sz by_) (hE : Env n L a) (he : evp L ps = some (numb 0 vs)) (hm : vs.length = m) (hv : ∀ v ∈ vs, v.cells.size = sz) (hcs : (vs.map fun v => v.cells.toList).flatten = cs) (hb : m * sz ≤ 16777216) :
    (execOp a.eval ⟨d, .buildSlice t m ps.toArray, ty, pos, af, g⟩).run P w = .ok (.value (.slice (some ⟨w.heap.size, 0, none⟩) m m)) (w.alloc (.cells cs.toArray e)) := by
  obtain ⟨i, z, e1, e2, e3, e4, e5⟩ := hT.info
  subst hm hcs
  have hE' := evp_map hE ps _ he
  have hb' : ¬ (vs.length * i.size > 2 ^ 24) := by rw [e3]; omega
  have key : ∀ zero : Array Value, Instr.fill (fun i_1 => some (i_1 * i.size, i.size)) ((Array.range (vs.length * i.size)).map (zero[· % zero.size]!)) (numb 0 vs) = some (vs.map fun v => v.cells.toList).flatten.toArray := by
    intro zero
    have := fill_all sz vs 0 [] ((Array.range (vs.length * i.size)).map (zero[· % zero.size]!)).toList (by simp) (by simp [e3]) hv
    simp only [List.nil_append, Array.toArray_toList] at this
    rw [e3] at this ⊢; exact this
  simp only [execOp, Instr.buildSlice, List.map_toArray, hE', Sem.run_bind, run_underlying hT.under, Result.andThen_ok, sizeOf, typeInfo, run_program, e1, Sem.run_pure, hb', if_false]
  by_cases h0 : vs.length * i.size = 0
  · simp [h0, newRow] at key ⊢
    have := key #[]
    simp at this
    simp [this]
  · simp [h0, zeroValue, typeInfo, e1, e2, newRow, key]

theorem lkI {t : Nat} {L : List (Nat × Value)} {q : IntKind} {x y : Int} (h : lk t L = some (.int q x)) (e : x = y) : lk t L = some (.int q y) := e ▸ h

theorem Held.to {M : Nat → Prop} {w0 : World} {rs rs' : List Res} {w : World} (h : Held M w0 rs w) (e : rs = rs') : Held M w0 rs' w := e ▸ h

theorem Held.flatO {M : Nat → Prop} {w0 : World} {rs : List Res} {w : World} (h : Held M w0 rs w) {α : Type} {E : Enc α} {cs : List Value} {x : α} (ho : ∀ W, E.O W Nob cs x) : Held M w0 (rO E Nob cs x :: rs) w := h.new (Below.refl _ _) (rO E Nob cs x) (ho w) fun _ h => h.elim

theorem tv_parts {P : Program} {t : TypeId} {z : Value} {n : Nat} (h : (P.info? t).map (fun i => (i.zero, i.size)) = some (some z, n)) : ∃ i, P.info? t = some i ∧ i.zero = some z ∧ i.size = n := by
  cases hi : P.info? t with
  | none => rw [hi] at h; cases h
  | some i =>
    rw [hi] at h
    simp only [Option.map_some, Option.some.injEq, Prod.mk.injEq] at h
    exact ⟨i, rfl, h.1, h.2⟩

theorem ts_parts {P : Program} {t : TypeId} {z : Value} {n b : Nat} (h : (P.info? t).map (fun i => (i.zero, i.size, i.bytes)) = some (some z, n, b)) : ∃ i, P.info? t = some i ∧ i.zero = some z ∧ i.size = n ∧ i.bytes = b := by
  cases hi : P.info? t with
  | none => rw [hi] at h; cases h
  | some i =>
    rw [hi] at h
    simp only [Option.map_some, Option.some.injEq, Prod.mk.injEq] at h
    exact ⟨i, rfl, h.1, h.2.1, h.2.2⟩

theorem Env.castI {n t : Nat} {L : List (Nat × Value)} {a : Act} {q : IntKind} {x y : Int} (h : Env n L a) (hl : lk t L = some (.int q x)) (e : x = y) : Env n ((t, .int q y) :: L) a :=
  h.sub' fun s v hv => by
    simp only [lk] at hv
    by_cases hs : Nat.beq s t = true
    · rw [hs] at hv
      have hs' := Nat.eq_of_beq_eq_true hs
      subst hs' e
      simp at hv
      rw [hl, hv]
    · have hs' : Nat.beq s t = false := Bool.eq_false_iff.2 hs
      rw [hs'] at hv; exact hv

/-- A captured variable's cell, as a closure sees it. -/
theorem Held.capB {M : Nat → Prop} {w0 : World} {rs : List Res} {w W : World} {g : Nat} {t : TypeId} {cs : List Value} (h : Held M w0 rs w) (i : Nat) (hi : rs[i]? = some (rBlk g t cs)) (hb : Below w.heap.size w W) : ∀ j v, cs[j]? = some v → W.cell? ⟨g, 0 + j, none⟩ = some v := fun j v hv => by
  have hlt := (h.rng _ (List.mem_of_getElem? hi) g rfl).2
  rw [hb.cell (p := ⟨g, 0 + j, none⟩) hlt]
  exact c_blkN i hi w h j v hv

theorem Env.castS {n t m m' c : Nat} {A : Option Addr} {L : List (Nat × Value)} {a : Act} (h : Env n L a) (hl : lk t L = some (.slice A m c)) (e : m = m') : Env n ((t, .slice A m' c) :: L) a :=
  h.sub' fun s v hv => by
    simp only [lk] at hv
    by_cases hs : Nat.beq s t = true
    · rw [hs] at hv
      have hs' := Nat.eq_of_beq_eq_true hs
      subst hs' e
      simp at hv
      rw [hl, hv]
    · have hs' : Nat.beq s t = false := Bool.eq_false_iff.2 hs
      rw [hs'] at hv; exact hv

/-- What was there, outside M. -/
def Out (M : Nat → Prop) (w : World) (b : Nat) : Prop := b < w.heap.size ∧ ¬ M b

/-- The blocks of some parts. -/
def Foot (xs : List Res) (b : Nat) : Prop := ∃ r ∈ xs, r.S b

theorem Held.startM {w : World} {α : Type} {E : Enc α} {S : Nat → Prop} {cs : List Value} {x : α} (ho : E.O w S cs x) (hS : ∀ b, S b → b < w.heap.size) : Held S w [rO E S cs x] w :=
  ⟨Chg.refl _ _, (fun r hr => by simp at hr; subst hr; exact ho), (fun r hr b hb => by simp at hr; subst hr; exact ⟨.inl hb, hS b hb⟩), by simp⟩

theorem Held.focus {M0 : Nat → Prop} {w0 : World} {xs rs : List Res} {w : World} (h : Held M0 w0 (xs ++ rs) w) : Held (Foot xs) w xs w :=
  ⟨Chg.refl _ _, fun r hr => h.ok r (by simp [hr]), fun r hr b hb => ⟨.inl ⟨r, hr, hb⟩, (h.rng r (by simp [hr]) b hb).2⟩, (List.pairwise_append.1 h.sep).1⟩

theorem Held.back {M0 : Nat → Prop} {w0 : World} {xs ys rs : List Res} {w w' : World} (h : Held M0 w0 (xs ++ rs) w) (h' : Held (Foot xs) w ys w') : Held M0 w0 (ys ++ rs) w' where
  chg := by
    refine ⟨h'.chg.os.trans h.chg.os, h'.chg.tape.trans h.chg.tape, h'.chg.output.trans h.chg.output, Nat.le_trans h.chg.size h'.chg.size, fun k hk hM => ?_⟩
    refine (h'.chg.block k (Nat.lt_of_lt_of_le hk h.chg.size) ?_).trans (h.chg.block k hk hM)
    rintro ⟨r, hr, hb⟩
    rcases (h.rng r (by simp [hr]) k hb).1 with q | q
    · exact hM q
    · omega
  ok := by
    intro r hr
    rcases List.mem_append.1 hr with hr | hr
    · exact h'.ok r hr
    · refine r.loc w w' (fun b hb => h'.chg.block b (h.rng r (by simp [hr]) b hb).2 ?_) (h.ok r (by simp [hr]))
      rintro ⟨s, hs, hb'⟩
      exact (List.pairwise_append.1 h.sep).2.2 s hs r hr b hb' hb
  rng := by
    intro r hr b hb
    rcases List.mem_append.1 hr with hr | hr
    · obtain ⟨h1, h2⟩ := h'.rng r hr b hb
      refine ⟨?_, h2⟩
      rcases h1 with ⟨s, hs, hb'⟩ | h1
      · exact (h.rng s (by simp [hs]) b hb').1
      · exact .inr (Nat.le_trans h.size h1)
    · have h1 := h.rng r (by simp [hr]) b hb
      exact ⟨h1.1, Nat.lt_of_lt_of_le h1.2 h'.chg.size⟩
  sep := by
    refine List.pairwise_append.2 ⟨h'.sep, (List.pairwise_append.1 h.sep).2.1, fun r hr s hs b hb hb' => ?_⟩
    rcases (h'.rng r hr b hb).1 with ⟨q, hq, hb2⟩ | h1
    · exact (List.pairwise_append.1 h.sep).2.2 q hq s hs b hb2 hb'
    · have := (h.rng s (by simp [hs]) b hb').2; omega

theorem Held.oldM {M : Nat → Prop} {w0 : World} {rs : List Res} {w : World} {α : Type} {E : Enc α} {A : Option Addr} {c : Nat} {xs : List α} (h : Held M w0 rs w) (hs : Sl E w0 (Out M w0) A c xs) : Sl E w (Old w) A c xs :=
  (hs.keep (fun p hp => World.cell?_of_block (w := w0) (h.chg.block p.block hp.1 hp.2))).more fun b hb => Nat.lt_of_lt_of_le hb.1 h.chg.size

theorem Held.oldRM {M : Nat → Prop} {w0 : World} {rs : List Res} {w : World} {α : Type} {E : Enc α} {cs : List Value} {x : α} (h : Held M w0 rs w) (hs : E.R w0 (Out M w0) cs x) : E.R w (Old w) cs x :=
  E.more (E.keep hs (fun p hp => World.cell?_of_block (w := w0) (h.chg.block p.block hp.1 hp.2))) fun b hb => Nat.lt_of_lt_of_le hb.1 h.chg.size

/-- A borrowed slice, as a callee that rewrites xs sees it. -/
theorem Held.lend {w0 : World} {xs rs : List Res} {w : World} {α : Type} {E : Enc α} {A : Option Addr} {c : Nat} {zs : List α} (h : Held Nob w0 (xs ++ rs) w) (hs : Sl E w0 (Old w0) A c zs) : Sl E w (Out (Foot xs) w) A c zs :=
  (hs.keep (fun p hp => h.cell0 hp fun h => h)).more fun b hb => ⟨Nat.lt_of_lt_of_le hb h.size, by
    rintro ⟨r, hr, hb'⟩
    rcases (h.rng r (by simp [hr]) b hb').1 with q | q
    · exact q.elim
    · have : b < w0.heap.size := hb
      omega⟩

theorem Held.lendM {M : Nat → Prop} {w0 : World} {xs rs : List Res} {w : World} {α : Type} {E : Enc α} {A : Option Addr} {c : Nat} {zs : List α} (h : Held M w0 (xs ++ rs) w) (hs : Sl E w0 (Out M w0) A c zs) : Sl E w (Out (Foot xs) w) A c zs :=
  (hs.keep (fun p hp => h.cell0 hp.1 hp.2)).more fun b hb => ⟨Nat.lt_of_lt_of_le hb.1 h.size, by
    rintro ⟨r, hr, hb'⟩
    rcases (h.rng r (by simp [hr]) b hb').1 with q | q
    · exact hb.2 q
    · have : b < w0.heap.size := hb.1
      omega⟩

/-- The flat part in front given up. -/
theorem Held.unF {M : Nat → Prop} {w0 : World} {rs : List Res} {w : World} {α β : Type} {E : Enc α} {F : Enc β} {S : Nat → Prop} {v : Value} {cs : List Value} {x : α × β} (h1 : E.size = 1) (h : Held M w0 (rO (ePr E F) S (v :: cs) x :: rs) w) : Held M w0 (rO F S cs x.2 :: rs) w := by
  refine h.turn _ ?_ fun _ hb => hb
  rintro ⟨c1, c2, S1, S2, he, k1, k2, o1, o2⟩
  have hl := E.len (E.read o1)
  rw [h1] at hl
  obtain ⟨u, rfl⟩ := List.length_eq_one_iff.1 hl
  simp at he
  obtain ⟨_, rfl⟩ := he
  exact F.omore o2 k2

theorem Held.unP {M : Nat → Prop} {w0 : World} {rs : List Res} {w : World} {α β : Type} {E : Enc α} {F : Enc β} {S : Nat → Prop} {v : Value} {cs : List Value} {x : α × β} (h1 : E.size = 1) (h : Held M w0 (rO (ePr E F) S (v :: cs) x :: rs) w) : ∃ S1 S2, Held M w0 (rO E S1 [v] x.1 :: rO F S2 cs x.2 :: rs) w := by
  obtain ⟨c1, c2, S1, S2, he, k1, k2, o1, o2⟩ := h.ok _ (List.mem_cons_self)
  have hl := E.len (E.read o1)
  rw [h1] at hl
  obtain ⟨u, rfl⟩ := List.length_eq_one_iff.1 hl
  simp at he
  obtain ⟨rfl, rfl⟩ := he
  have hs := List.pairwise_cons.1 h.sep
  refine ⟨S1, S2, h.chg, ?_, ?_, ?_⟩
  · intro r hr
    simp only [List.mem_cons] at hr
    rcases hr with rfl | rfl | hr
    · exact o1
    · exact o2
    · exact h.ok r (by simp [hr])
  · intro r hr b hb
    simp only [List.mem_cons] at hr
    rcases hr with rfl | rfl | hr
    · exact h.rng _ (List.mem_cons_self) b (k1 b hb).1
    · exact h.rng _ (List.mem_cons_self) b (k2 b hb)
    · exact h.rng r (by simp [hr]) b hb
  · refine List.pairwise_cons.2 ⟨fun r hr b hb hb' => ?_, List.pairwise_cons.2 ⟨fun r hr b hb hb' => hs.1 r hr b (k2 b hb) hb', hs.2⟩⟩
    rcases List.mem_cons.1 hr with rfl | hr
    · exact (k1 b hb).2 hb'
    · exact hs.1 r hr b (k1 b hb).1 hb'

/-- An owned slice with one element laid open: its cells es; what the element owns (T) is held apart. -/
def Foc {α : Type} (E : Enc α) (w : World) (S : Nat → Prop) (b off c : Nat) (xs : List α) (k : Nat) (es : List Value) : Prop :=
  k < xs.length ∧ xs.length ≤ c ∧ c ≤ maxLen ∧ S b ∧ es.length = E.size ∧ ∃ (t : TypeId) (cur : Array Value) (T : Nat → Nat → Prop), Blk w b t cur ∧ (∀ i m, T i m → S m ∧ m ≠ b) ∧ (∀ i j m, T i m → T j m → i = j) ∧
    (∀ j v, es[j]? = some v → cur[off + k * E.size + j]? = some v) ∧ ∀ (i : Nat) (x : α), i ≠ k → xs[i]? = some x → ∃ us, E.O w (T i) us x ∧ ∀ j v, us[j]? = some v → cur[off + i * E.size + j]? = some v

theorem Foc.keep {α : Type} {E : Enc α} {w w' : World} {S : Nat → Prop} {b off c : Nat} {xs : List α} {k : Nat} {es : List Value} (h : Foc E w S b off c xs k es) (hk : ∀ b, S b → w'.heap[b]? = w.heap[b]?) : Foc E w' S b off c xs k es := by
  obtain ⟨h1, h2, h3, h4, h5, t, cur, T, hB, hT, hd, hc, hr⟩ := h
  refine ⟨h1, h2, h3, h4, h5, t, cur, T, (hk b h4).trans hB, hT, hd, hc, fun i x hi hx => ?_⟩
  obtain ⟨us, q1, q2⟩ := hr i x hi hx
  exact ⟨us, E.okeep q1 fun m hm => hk m (hT i m hm).1, q2⟩

def rFoc {α : Type} (E : Enc α) (S : Nat → Prop) (b off c : Nat) (xs : List α) (k : Nat) (es : List Value) : Res := ⟨S, fun w => Foc E w S b off c xs k es, fun _ _ h hf => hf.keep h⟩

theorem Held.open {M : Nat → Prop} {w0 : World} {rs : List Res} {w : World} {α : Type} {E : Enc α} {S : Nat → Prop} {A : Option Addr} {c : Nat} {xs : List α} (h : Held M w0 (rSo E S A c xs :: rs) w) {k : Nat} (hk : k < xs.length) :
    ∃ b off es T, A = some ⟨b, off, none⟩ ∧ E.R w (Old w) es xs[k] ∧ (∀ m, T m → S m ∧ m ≠ b) ∧ Held M w0 (rFoc E (fun m => S m ∧ ¬ T m) b off c xs k es :: rO E T es xs[k] :: rs) w := by
  have hso := so_of_o (h.ok _ (List.mem_cons_self))
  have hrng := h.rng _ (List.mem_cons_self)
  obtain ⟨b, off, t, cur, T, hA, hb, hB, hT, hd, hc⟩ := hso.2.2 (by intro e; subst e; simp at hk)
  obtain ⟨es, h1, h2⟩ := hc k xs[k] (List.getElem?_eq_getElem hk)
  have hs := List.pairwise_cons.1 h.sep
  refine ⟨b, off, es, T k, hA, E.more (E.read h1) (fun m hm => (hrng m (hT k m hm).1).2), fun m hm => hT k m hm, h.chg, ?_, ?_, ?_⟩
  · intro r hr
    simp only [List.mem_cons] at hr
    rcases hr with rfl | rfl | hr
    · refine ⟨hk, hso.1, hso.2.1, ⟨hb, fun hm => (hT k b hm).2 rfl⟩, E.len (E.read h1), t, cur, fun i m => i ≠ k ∧ T i m, hB, fun i m hm => ⟨⟨(hT i m hm.2).1, fun hm' => hm.1 (hd i k m hm.2 hm')⟩, (hT i m hm.2).2⟩, fun i j m h3 h4 => hd i j m h3.2 h4.2, h2, fun i x hi hx => ?_⟩
      obtain ⟨us, q1, q2⟩ := hc i x hx
      exact ⟨us, E.omore q1 fun m hm => ⟨hi, hm⟩, q2⟩
    · exact h1
    · exact h.ok r (by simp [hr])
  · intro r hr m hm
    simp only [List.mem_cons] at hr
    rcases hr with rfl | rfl | hr
    · exact hrng m hm.1
    · exact hrng m (hT k m hm).1
    · exact h.rng r (by simp [hr]) m hm
  · refine List.pairwise_cons.2 ⟨fun r hr m hm hm' => ?_, List.pairwise_cons.2 ⟨fun r hr m hm hm' => hs.1 r hr m (hT k m hm).1 hm', hs.2⟩⟩
    rcases List.mem_cons.1 hr with rfl | hr
    · exact hm.2 hm'
    · exact hs.1 r hr m hm.1 hm'

theorem Held.shut {M : Nat → Prop} {w0 : World} {rs : List Res} {w : World} {α : Type} {E : Enc α} {S T : Nat → Prop} {b off c k : Nat} {xs : List α} {es : List Value} {y : α} (h : Held M w0 (rFoc E S b off c xs k es :: rO E T es y :: rs) w) : Held M w0 (rSo E (fun m => S m ∨ T m) (some ⟨b, off, none⟩) c (xs.set k y) :: rs) w := by
  refine h.join _ (fun hf ho hd => ?_) fun _ hb => hb
  obtain ⟨h1, h2, h3, h4, h5, t, cur, T', hB, hT, hd', hc, hr⟩ := hf
  refine oSl ⟨by rw [List.length_set]; exact h2, h3, fun _ => ⟨b, off, t, cur, fun i m => (i = k ∧ T m) ∨ (i ≠ k ∧ T' i m), rfl, .inl h4, hB, ?_, ?_, fun i x hx => ?_⟩⟩
  · rintro i m (⟨_, hm⟩ | ⟨_, hm⟩)
    · exact ⟨.inr hm, fun e => hd b h4 (e ▸ hm)⟩
    · exact ⟨.inl (hT i m hm).1, (hT i m hm).2⟩
  · rintro i j m (⟨hi, hm⟩ | ⟨hi, hm⟩) (⟨hj, hm'⟩ | ⟨hj, hm'⟩)
    · rw [hi, hj]
    · exact absurd hm (hd m (hT j m hm').1)
    · exact absurd hm' (hd m (hT i m hm).1)
    · exact hd' i j m hm hm'
  · by_cases e : i = k
    · subst e
      rw [List.getElem?_set_self h1] at hx
      simp at hx; subst hx
      exact ⟨es, E.omore ho fun m hm => .inl ⟨rfl, hm⟩, hc⟩
    · rw [List.getElem?_set_ne (fun h => e h.symm)] at hx
      obtain ⟨us, q1, q2⟩ := hr i x e hx
      exact ⟨us, E.omore q1 fun m hm => .inr ⟨e, hm⟩, q2⟩

theorem c_foc {M : Nat → Prop} {w0 : World} {rs : List Res} {α : Type} {E : Enc α} {S : Nat → Prop} {b off c k : Nat} {xs : List α} {es : List Value} {j : Nat} {v : Value} (i : Nat) (hi : rs[i]? = some (rFoc E S b off c xs k es)) (hv : es[j]? = some v) : ∀ w, Held M w0 rs w → w.cell? ⟨b, off + k * E.size + j, none⟩ = some v := fun w h => by
  obtain ⟨h1, h2, h3, h4, h5, t, cur, T, hB, hT, hd, hc, hr⟩ := h.get hi
  rw [hB.cell]; exact hc j v hv

theorem Held.relen {M : Nat → Prop} {w0 : World} {rs : List Res} {w : World} {α : Type} {E : Enc α} {S : Nat → Prop} {A : Option Addr} {c n : Nat} {xs : List α} (h : Held M w0 (rSo E S A c xs :: rs) w) (hn : xs.length = n) : Held M w0 (rO (eSl E) S [.slice A n c] xs :: rs) w := hn ▸ h

theorem Held.lt {M : Nat → Prop} {w0 : World} {rs : List Res} {w : World} (h : Held M w0 rs w) {i : Nat} {r : Res} (hi : rs[i]? = some r) : ∀ b, r.S b → b < w.heap.size := fun b hb => (h.rng r (List.mem_of_getElem? hi) b hb).2

/-- What a callee made, beside what is held. -/
theorem Held.app {M : Nat → Prop} {w0 : World} {rs qs : List Res} {w w' : World} (h : Held M w0 rs w) (h' : Held Nob w qs w') : Held M w0 (qs ++ rs) w' where
  chg := (h.on h'.below).chg
  ok := by
    intro r hr
    rcases List.mem_append.1 hr with hr | hr
    · exact h'.ok r hr
    · exact (h.on h'.below).ok r hr
  rng := by
    intro r hr b hb
    rcases List.mem_append.1 hr with hr | hr
    · have h1 := h'.rng r hr b hb
      exact ⟨.inr (Nat.le_trans h.size (h1.1.resolve_left fun q => q.elim)), h1.2⟩
    · exact (h.on h'.below).rng r hr b hb
  sep := by
    refine List.pairwise_append.2 ⟨h'.sep, h.sep, fun r hr s hs b hb hb' => ?_⟩
    have h1 := (h'.rng r hr b hb).1.resolve_left fun q => q.elim
    have h2 := (h.rng s hs b hb').2
    omega

/-- Held only if p holds. -/
def rIf (p : Prop) (r : Res) : Res := ⟨r.S, fun w => p → r.φ w, fun w w' h hp hq => r.loc w w' h (hp hq)⟩

theorem Held.toIf {M : Nat → Prop} {w0 : World} {rs : List Res} {r : Res} {w : World} (h : Held M w0 (r :: rs) w) (p : Prop) : Held M w0 (rIf p r :: rs) w :=
  h.turn (rIf p r) (fun hr _ => hr) fun _ h => h

theorem Held.ofIf {M : Nat → Prop} {w0 : World} {rs : List Res} {r : Res} {w : World} {p : Prop} (h : Held M w0 (rIf p r :: rs) w) (hp : p) : Held M w0 (r :: rs) w :=
  h.turn r (fun hr => hr hp) fun _ h => h

theorem Held.noIf {M : Nat → Prop} {w0 : World} {rs : List Res} {w : World} {p : Prop} (h : Held M w0 rs w) {α : Type} {E : Enc α} {A : Option Addr} {c : Nat} {xs : List α} (r : Res) (hp : ¬ p) (hr : r = rSo E Nob A c xs := by rfl) : Held M w0 (rIf p r :: rs) w := by
  subst hr
  exact h.new (Below.refl _ _) (rIf p (rSo E Nob A c xs)) (fun hq => absurd hq hp) fun _ h => h.elim

theorem tv_31 : TV Try.prog 31 false [.slice none 0 0] := by
  obtain ⟨i, h1, h2, h3⟩ := tv_parts (show (Try.prog.info? 31).map (fun i => (i.zero, i.size)) = some (some (.slice none 0 0), 1) from by kernel_rfl)
  exact ⟨⟨_, Try.underlying31, rfl⟩, i, _, h1, h2, h3, rfl⟩

theorem tv_105 : TV Try.prog 105 true [.slice none 0 0, .slice none 0 0] := by
  obtain ⟨i, h1, h2, h3⟩ := tv_parts (show (Try.prog.info? 105).map (fun i => (i.zero, i.size)) = some (some (.agg #[.slice none 0 0, .slice none 0 0]), 2) from by kernel_rfl)
  exact ⟨⟨_, Try.underlying105, rfl⟩, i, _, h1, h2, h3, rfl⟩

theorem ts_34 : TSl Try.prog 34 105 2 48 := by
  obtain ⟨i, h1, h2, h3, h4⟩ := ts_parts (show (Try.prog.info? 105).map (fun i => (i.zero, i.size, i.bytes)) = some (some (.agg #[.slice none 0 0, .slice none 0 0]), 2, 48) from by kernel_rfl)
  exact ⟨Try.underlying34, i, _, h1, h2, h3, h4, rfl⟩

theorem fa_105_0 : ∀ b o w, (Instr.fieldAt 105 (.pointer (some ⟨b, o, none⟩)) 0).run Try.prog w = .ok (.pointer (some ⟨b, o + 0, none⟩)) w := by
  obtain ⟨i, z, h1, _, h3, _⟩ := tv_31.info
  exact fun b o w => fieldAt_of (f := 0) Try.underlying105 rfl h1 (by rw [h3]; decide) b o w

theorem fa_105_1 : ∀ b o w, (Instr.fieldAt 105 (.pointer (some ⟨b, o, none⟩)) 1).run Try.prog w = .ok (.pointer (some ⟨b, o + 1, none⟩)) w := by
  obtain ⟨i, z, h1, _, h3, _⟩ := tv_31.info
  exact fun b o w => fieldAt_of (f := 1) Try.underlying105 rfl h1 (by rw [h3]; decide) b o w

theorem tb_105 : TB Try.prog 105 [.slice none 0 0, .slice none 0 0] := by
  refine ⟨tv_105, _, #[(0, 1), (1, 1)], Try.underlying105, fun w => ?_, fun i hi => ?_⟩
  · obtain ⟨i31, z31, h31, _, s31, _⟩ := tv_31.info; simp only [List.length_cons, List.length_nil] at s31
    simp [sizeOf, typeInfo, h31, s31]
  · simp only [List.length_cons, List.length_nil] at hi
    match i, hi with
    | 0, _ => rfl
    | 1, _ => rfl

theorem en_20 : ∀ args w, (callFunc 20 args).run Try.prog w = .ok (.enter 20 args) w := enters_of Try.func20 (by kernel_rfl) rfl

theorem en_22 : ∀ args w, (callFunc 22 args).run Try.prog w = .ok (.enter 22 args) w := enters_of Try.func22 (by kernel_rfl) rfl

theorem en_25 : ∀ args w, (callFunc 25 args).run Try.prog w = .ok (.enter 25 args) w := enters_of Try.func25 (by kernel_rfl) rfl

theorem en_34 : ∀ args w, (callFunc 34 args).run Try.prog w = .ok (.enter 34 args) w := enters_of Try.func34 (by kernel_rfl) rfl

theorem en_37 : ∀ args w, (callFunc 37 args).run Try.prog w = .ok (.enter 37 args) w := enters_of Try.func37 (by kernel_rfl) rfl

theorem en_38 : ∀ args w, (callFunc 38 args).run Try.prog w = .ok (.enter 38 args) w := enters_of Try.func38 (by kernel_rfl) rfl

theorem en_39 : ∀ args w, (callFunc 39 args).run Try.prog w = .ok (.enter 39 args) w := enters_of Try.func39 (by kernel_rfl) rfl

theorem en_40 : ∀ args w, (callFunc 40 args).run Try.prog w = .ok (.enter 40 args) w := enters_of Try.func40 (by kernel_rfl) rfl

theorem en_46 : ∀ args w, (callFunc 46 args).run Try.prog w = .ok (.enter 46 args) w := enters_of Try.func46 (by kernel_rfl) rfl

theorem en_75 : ∀ args w, (callFunc 75 args).run Try.prog w = .ok (.enter 75 args) w := enters_of Try.func75 (by kernel_rfl) rfl

theorem en_79 : ∀ args w, (callFunc 79 args).run Try.prog w = .ok (.enter 79 args) w := enters_of Try.func79 (by kernel_rfl) rfl

theorem en_90 : ∀ args w, (callFunc 90 args).run Try.prog w = .ok (.enter 90 args) w := enters_of Try.func90 (by kernel_rfl) rfl

theorem en_91 : ∀ args w, (callFunc 91 args).run Try.prog w = .ok (.enter 91 args) w := enters_of Try.func91 (by kernel_rfl) rfl

theorem hmix : Try.prog.follows .mixedOrders = true := by kernel_rfl

theorem held_L_e (A : Option Addr) (c : Nat) (ys : List Int) (k : Int) (z : List Int) (w : World) (h : Sl eInt w (Old w) A c ys) (sz : ys = mk_L z k) (hk : 0 ≤ k) (hk' : k + (ct_L z : Int) ≤ 1000000000000) :
    Calls Try.prog 46 #[.slice A ys.length c, .int .i64 k] w fun e w' => e = .returned (.int .i64 (k + (ct_L z : Int))) ∧ Below w.heap.size w w' := by
  subst sz
  have := held_L_c A c z k w h hk hk'
  rwa [show z.length = (mk_L z k).length from (mkL_len _ _ _ _).symm] at this

theorem cntL_cost {α : Type} {c f : α → Nat} (h : ∀ x, c x ≤ 4 * f x + 4) (xs : List α) : cntL c xs ≤ 4 * costL f xs := by
  unfold cntL costL
  induction xs with
  | nil => simp
  | cons x xs ih =>
    rw [List.map_cons, List.sum_cons, List.map_cons, List.sum_cons, List.length_cons]
    have := h x
    omega

theorem cntL_bound {α : Type} {c : α → Nat} {n : Nat} : ∀ {xs : List α}, (∀ x ∈ xs, c x ≤ n) → cntL c xs ≤ n * xs.length
  | [], _ => by simp [cntL]
  | x :: xs, h => by
    have h1 := cntL_bound (c := c) (n := n) (xs := xs) fun y hy => h y (by simp [hy])
    have h2 := h x (by simp)
    unfold cntL at h1 ⊢
    rw [List.map_cons, List.sum_cons, List.length_cons, Nat.mul_succ]
    omega

theorem ct_L_len (xs : List Int) : ct_L xs = xs.length := by
  have := cntL_const ct_i 1 xs fun _ => rfl
  unfold ct_L; omega

theorem ct_cost_SRewrite (xs : List tRewrite) : ct_SRewrite xs ≤ 4 * cost_SRewrite xs := cntL_cost (fun x => by
  have h1 := ct_L_len x.1
  have h2 := ct_L_len x.2
  unfold ct_Rewrite cost_Rewrite cost_L; omega) xs

def mkR_SRewrite (xs : List tRewrite) (k : Int) : Int × List tRewrite := (k + (ct_SRewrite xs : Int), mk_SRewrite xs k)

set_option maxRecDepth 100000 in
set_option maxHeartbeats 4000000 in
theorem mark_SRewrite_h (M : Nat → Prop) (A0 : Option Addr) (c0 : Nat) (a0 : (List tRewrite)) (S0 : Nat → Prop) (a1 : Int) (w : World) (HM : Held M w [rSo eRewrite S0 A0 c0 a0] w) (s0 : 0 ≤ a1) (s1 : a1 + (ct_SRewrite a0 : Int) ≤ 1000000000000) :
    Calls Try.prog 39 #[.slice A0 a0.length c0, .int .i64 a1] w fun e w' => ∃ (S0' : Nat → Prop), e = .returned (.int .i64 (mkR_SRewrite a0 a1).1) ∧ Held M w [rSo eRewrite S0' A0 c0 (mkR_SRewrite a0 a1).2] w' := by
  have HH1 := HM
  have l0 := (HH1.sl (i := 0) rfl).len
  refine enter (n := 27) Try.func39 rfl rfl rfl fun a_2 HE3 => ?_
  refine wp_seq ?_
  refine rg ?_
  refine pl_x HE3 HH1 (wt0 rfl) (x_assign rfl) rfl rfl fun a_4 HE5 => ?_
  refine wpList_nil ?_
  clear a_2 HE3
  refine nrm ?_
  refine wp_seq ?_
  refine wp_seq ?_
  refine rg ?_
  refine pl_x HE5 HH1 (wt0 rfl) (x_assign rfl) rfl rfl fun a_6 HE7 => ?_
  refine wpList_nil ?_
  clear a_4 HE5
  refine nrm ?_
  refine wp_block ?_
  refine lp (fun m a w' => ∃ (i : Nat) (S_0 : Nat → Prop), m = a0.length - i ∧ Env 27 [(1, .int .i64 (a1 + (cntL ct_Rewrite (a0.take i) : Int))), (5, .int .i64 (i : Int)), (0, .slice A0 (a0.length) c0)] a ∧ Held M w [rSo eRewrite S_0 A0 c0 (mkTo mk_Rewrite ct_Rewrite a0 a1 i)] w' ∧ (i ≤ a0.length)) (a0.length - (0)) ?_ ?_
  · have E21 : mkTo mk_Rewrite ct_Rewrite a0 a1 0 = a0 := by
      exact mkTo_zero _ _ _ _
    exact ⟨0, S0, rfl, HE7.sub ⟨(lkI rfl (by simp [cntL])), (lkI rfl (by first | rfl | omega | (simp []; done))), rfl, trivial⟩, ((HH1.sel [0] (by decide) rfl).to (by first | rfl | (rw [E21]; done) | (rw [E21]; rfl) | (simp only [E21]; done) | (simp only [E21]; rfl))), (by first | omega | assumption | (simp; done) | simp_all)⟩
  · rintro m a_8 w' ⟨i, S_0, rfl, HE9, HH10, p22_0⟩
    have hl0 : (mkTo mk_Rewrite ct_Rewrite a0 a1 i).length = a0.length := mkTo_len _ _ _ _ _
    refine wp_seq ?_
    refine wp_seq ?_
    refine rg ?_
    refine pl_x HE9 HH10 (wt0 rfl) (x_move rfl) rfl rfl fun a_11 HE12 => ?_
    refine pl_x HE12 HH10 (wt0 rfl) (x_move rfl) rfl rfl fun a_13 HE14 => ?_
    refine pl_x HE14 HH10 (wt0 rfl) (x_len Try.underlying34 rfl) rfl rfl fun a_15 HE16 => ?_
    refine pl_x HE16 HH10 (wt0 rfl) (x_lss rfl rfl) rfl rfl fun a_17 HE18 => ?_
    refine wpList_nil ?_
    clear a_6 HE7 HH1 a_8 HE9 a_11 HE12 a_13 HE14 a_15 HE16
    refine nrm ?_
    refine cnd_d HE18 rfl (fun hc23 => ?_) (fun hc23 => ?_)
    · refine wp_skip ?_
      refine nrm ?_
      refine wp_seq ?_
      refine wp_block ?_
      refine wp_seq ?_
      refine rg ?_
      refine pl_x HE18 HH10 (wt0 rfl) (x_move rfl) rfl rfl fun a_19 HE20 => ?_
      refine pl_x HE20 HH10 (wt0 rfl) (x_move rfl) rfl rfl fun a_21 HE22 => ?_
      have ke24 : i < List.length (mkTo mk_Rewrite ct_Rewrite a0 a1 i) := by first | omega | (rw [mkTo_len]; omega)
      have ne24 : i < a0.length := by omega
      obtain ⟨be24, fe24, ese24, Te24, rfl, Re24, Ze24, HH23⟩ := HH10.open ke24
      obtain ⟨e24, xe24⟩ : ∃ x, x = (mkTo mk_Rewrite ct_Rewrite a0 a1 i)[i] := ⟨_, rfl⟩
      rw [← xe24] at Re24
      rw [← xe24] at HH23
      obtain ⟨Ae24_0, ce24_0, Ae24_1, ce24_1, rfl, ge24_0, ge24_1⟩ := shape_Rewrite Re24
      clear Re24
      have hxe24 : e24 = a0[i] := by have hq := mkTo_get mk_Rewrite ct_Rewrite a0 a1 i (by omega); rw [List.getElem?_eq_getElem (by rw [mkTo_len]; omega)] at hq; rw [xe24]; exact Option.some.inj hq
      have hc1 := cntL_take ct_Rewrite a0 i (by omega)
      have hc2 : cntL ct_Rewrite (a0.take (i + 1)) ≤ ct_SRewrite a0 := cntL_le ct_Rewrite a0 (i + 1)
      rw [← hxe24] at hc1
      have hc3 : ct_Rewrite e24 = ct_L e24.1 + ct_L e24.2 := rfl
      have HH24 := HH23.sel [1, 0] (by decide) rfl
      obtain ⟨S25, S26, HH25⟩ := HH24.unP rfl
      have HH26 := HH25.sel [1, 0, 2] (by decide) rfl
      refine pl_x HE22 HH26 (wt0 rfl) (x_indexAddr ts_34 rfl rfl rfl rfl ne24) rfl rfl fun a_27 HE28 => ?_
      refine pl_x HE28 HH26 (wt0 rfl) (x_fieldAddr fa_105_0 rfl) rfl rfl fun a_29 HE30 => ?_
      refine pl_x HE30 HH26 (wt0 rfl) (x_load1 tv_31 rfl (c_foc (E := eRewrite) (off := fe24) (k := i) (j := 0) 2 rfl rfl)) rfl rfl fun a_31 HE32 => ?_
      refine pl_x HE32 HH26 (wt0 rfl) (x_move rfl) rfl rfl fun a_33 HE34 => ?_
      refine pl fun K_35 hK36 => ?_
      refine st_call HE34 (wt0 rfl) rfl rfl rfl en_34 rfl rfl (mark_L_c _ _ e24.1 (a1 + (cntL ct_Rewrite (a0.take i) : Int)) _ _ (so_of_o (HH26.get (i := 1) rfl)) (HH26.lt (i := 1) rfl) (by omega) (by omega)) fun e w' hr => ?_
      obtain ⟨rfl, hsr27, hcr27⟩ := hr
      have HH37 := HH26.mut (i := 1) rfl hcr27 (rSo eInt S25 Ae24_0 ce24_0 (mk_L e24.1 (a1 + (cntL ct_Rewrite (a0.take i) : Int)))) (oSl hsr27) (fun b hb => .inl hb)
      clear hsr27 hcr27
      refine ⟨_, rfl, fun a_38 HE39 => hK36 _ _ ?_⟩
      refine pl_x HE39 HH37 (wt0 rfl) (x_assign rfl) rfl rfl fun a_40 HE41 => ?_
      refine wpList_nil ?_
      clear a_17 HE18 a_19 HE20 HH10 HH23 HH24 HH25 a_21 HE22 a_27 HE28 a_29 HE30 a_31 HE32 HH26 a_33 HE34 a_38 HE39 hK36 K_35
      refine nrm ?_
      refine rg ?_
      refine pl_x HE41 HH37 (wt0 rfl) (x_move rfl) rfl rfl fun a_42 HE43 => ?_
      refine pl_x HE43 HH37 (wt0 rfl) (x_move rfl) rfl rfl fun a_44 HE45 => ?_
      refine pl_x HE45 HH37 (wt0 rfl) (x_indexAddr ts_34 rfl rfl rfl rfl ne24) rfl rfl fun a_46 HE47 => ?_
      refine pl_x HE47 HH37 (wt0 rfl) (x_fieldAddr fa_105_1 rfl) rfl rfl fun a_48 HE49 => ?_
      refine pl_x HE49 HH37 (wt0 rfl) (x_load1 tv_31 rfl (c_foc (E := eRewrite) (off := fe24) (k := i) (j := 1) 2 rfl rfl)) rfl rfl fun a_50 HE51 => ?_
      refine pl_x HE51 HH37 (wt0 rfl) (x_move rfl) rfl rfl fun a_52 HE53 => ?_
      refine pl fun K_54 hK55 => ?_
      refine st_call HE53 (wt0 rfl) rfl rfl rfl en_34 rfl rfl (mark_L_c _ _ e24.2 ((a1 + (cntL ct_Rewrite (a0.take i) : Int)) + (ct_L e24.1 : Int)) _ _ (so_of_o (HH37.get (i := 0) rfl)) (HH37.lt (i := 0) rfl) (by omega) (by omega)) fun e w' hr => ?_
      obtain ⟨rfl, hsr28, hcr28⟩ := hr
      have HH56 := HH37.mut (i := 0) rfl hcr28 (rSo eInt S26 Ae24_1 ce24_1 (mk_L e24.2 ((a1 + (cntL ct_Rewrite (a0.take i) : Int)) + (ct_L e24.1 : Int)))) (oSl hsr28) (fun b hb => .inl hb)
      clear hsr28 hcr28
      refine ⟨_, rfl, fun a_57 HE58 => hK55 _ _ ?_⟩
      refine pl_x HE58 HH56 (wt0 rfl) (x_assign rfl) rfl rfl fun a_59 HE60 => ?_
      refine wpList_nil ?_
      clear a_40 HE41 a_42 HE43 a_44 HE45 a_46 HE47 a_48 HE49 a_50 HE51 HH37 a_52 HE53 a_57 HE58 hK55 K_54
      refine blk_n ?_
      refine nrm ?_
      refine rg ?_
      refine pl_x HE60 HH56 (wt0 rfl) (x_move rfl) rfl rfl fun a_61 HE62 => ?_
      refine pl_x HE62 HH56 (wt0 rfl) (x_add rfl rfl (by exact ⟨by omega, by omega⟩)) rfl rfl fun a_63 HE64 => ?_
      refine pl_x HE64 HH56 (wt0 rfl) (x_assign rfl) rfl rfl fun a_65 HE66 => ?_
      refine wpList_nil ?_
      clear a_59 HE60 a_61 HE62 a_63 HE64
      have HH67 := HH56.sel [1, 0, 2] (by decide) rfl
      have HH68 := HH67.relen (n := e24.1.length) (by first | exact mkL_len _ _ _ _ | (simp; done) | (simp; omega))
      have HH69 := HH68.sel [1, 0, 2] (by decide) rfl
      have HH70 := HH69.relen (n := e24.2.length) (by first | exact mkL_len _ _ _ _ | (simp; done) | (simp; omega))
      have HH71 := HH70.sel [1, 0, 2] (by decide) rfl
      have HH72 := HH71.sel [1, 0, 2] (by decide) rfl
      have HH73 := HH72.sel [1, 0, 2] (by decide) rfl
      have HH74 := HH73.pair
      obtain ⟨S29, HH75⟩ : ∃ S, Held M w (rO eRewrite S [.slice Ae24_0 (e24.1.length) ce24_0, .slice Ae24_1 (e24.2.length) ce24_1] ((mk_L e24.1 (a1 + (cntL ct_Rewrite (a0.take i) : Int))), (mk_L e24.2 ((a1 + (cntL ct_Rewrite (a0.take i) : Int)) + (ct_L e24.1 : Int)))) :: _) _ := ⟨_, HH74⟩
      have HH76 := HH75.sel [1, 0] (by decide) rfl
      have HH77 := HH76.shut
      obtain ⟨S30, HH78⟩ : ∃ S, Held M w (rSo eRewrite S (some ⟨be24, fe24, none⟩) c0 ((mkTo mk_Rewrite ct_Rewrite a0 a1 i).set i ((mk_L e24.1 (a1 + (cntL ct_Rewrite (a0.take i) : Int))), (mk_L e24.2 ((a1 + (cntL ct_Rewrite (a0.take i) : Int)) + (ct_L e24.1 : Int))))) :: _) _ := ⟨_, HH77⟩
      have E31 : mkTo mk_Rewrite ct_Rewrite a0 a1 (i + 1) = ((mkTo mk_Rewrite ct_Rewrite a0 a1 i).set i ((mk_L e24.1 (a1 + (cntL ct_Rewrite (a0.take i) : Int))), (mk_L e24.2 ((a1 + (cntL ct_Rewrite (a0.take i) : Int)) + (ct_L e24.1 : Int))))) := by
        rw [← mkTo_step mk_Rewrite ct_Rewrite a0 a1 i (by omega), ← hxe24]; rfl
      exact nrm ⟨a0.length - (i + 1), (by omega), i + 1, S30, rfl, HE66.sub ⟨(lkI rfl (by omega)), (lkI rfl (by first | rfl | omega | (simp [p22_0, hc23, xe24]; done))), rfl, trivial⟩, ((HH78.sel [0] (by decide) rfl).to (by first | rfl | (rw [E31]; done) | (rw [E31]; rfl) | (simp only [E31]; done) | (simp only [E31]; rfl))), (by first | omega | assumption | (simp; done) | simp_all)⟩
    · refine wp_exit ?_
      refine (thn_exit (thn_exit (blk_hit ?_)))
      refine nrm ?_
      refine wp_seq ?_
      refine rg ?_
      refine pl_x HE18 HH10 (wt0 rfl) (x_move rfl) rfl rfl fun a_79 HE80 => ?_
      refine pl_x HE80 HH10 (wt0 rfl) (x_assign rfl) rfl rfl fun a_81 HE82 => ?_
      refine wpList_nil ?_
      clear a_17 HE18 a_79 HE80
      refine nrm ?_
      refine wp_ret ?_
      refine ret1 HE82 rfl (rv_tmp rfl) ?_
      have hF : (mkR_SRewrite a0 a1) = ((a1 + (cntL ct_Rewrite (a0.take i) : Int)), mkTo mk_Rewrite ct_Rewrite a0 a1 i) := by
        unfold mkR_SRewrite ct_SRewrite mk_SRewrite; rw [show i = a0.length from by omega, mkTo_end, List.take_length]
      exact ⟨_, by rw [hF] <;> rfl, by rw [hF]; exact HH10.sel [0] (by decide) rfl⟩

set_option maxRecDepth 100000 in
set_option maxHeartbeats 4000000 in
theorem held_SRewrite_e (A0 : Option Addr) (c0 : Nat) (a0 : (List tRewrite)) (a1 : Int) (z : List tRewrite) (w : World) (h0 : Sl eRewrite w (Old w) A0 c0 a0) (sz : a0 = mk_SRewrite z a1) (s0 : 0 ≤ a1) (s1 : a1 + (ct_SRewrite z : Int) ≤ 1000000000000) :
    Calls Try.prog 40 #[.slice A0 a0.length c0, .int .i64 a1] w fun e w' => e = .returned (.int .i64 (a1 + (ct_SRewrite z : Int))) ∧ Below w.heap.size w w' := by
  have l0 := h0.len
  have hz0 : a0.length = z.length := by rw [sz]; exact mkL_len _ _ _ _
  have HH1 := Held.start Nob w
  refine enter (n := 31) Try.func40 rfl rfl rfl fun a_2 HE3 => ?_
  refine wp_seq ?_
  refine rg ?_
  refine pl_x HE3 HH1 (wt0 rfl) (x_assign rfl) rfl rfl fun a_4 HE5 => ?_
  refine wpList_nil ?_
  clear a_2 HE3
  refine nrm ?_
  refine wp_seq ?_
  refine wp_seq ?_
  refine rg ?_
  refine pl_x HE5 HH1 (wt0 rfl) (x_assign rfl) rfl rfl fun a_6 HE7 => ?_
  refine wpList_nil ?_
  clear a_4 HE5
  refine nrm ?_
  refine wp_block ?_
  refine lp (fun m a w' => ∃ (i : Nat), m = a0.length - i ∧ Env 31 [(1, .int .i64 (a1 + (cntL ct_Rewrite (z.take i) : Int))), (5, .int .i64 (i : Int)), (0, .slice A0 (a0.length) c0)] a ∧ Held Nob w [] w' ∧ (i ≤ a0.length)) (a0.length - (0)) ?_ ?_
  · exact ⟨0, rfl, HE7.sub ⟨(lkI rfl (by simp [cntL])), (lkI rfl (by first | rfl | omega | (simp []; done))), rfl, trivial⟩, (HH1.sel [] (by decide) rfl), (by first | omega | assumption | (simp; done) | simp_all)⟩
  · rintro m a_8 w' ⟨i, rfl, HE9, HH10, p21_0⟩
    refine wp_seq ?_
    refine wp_seq ?_
    refine rg ?_
    refine pl_x HE9 HH10 (wt0 rfl) (x_move rfl) rfl rfl fun a_11 HE12 => ?_
    refine pl_x HE12 HH10 (wt0 rfl) (x_move rfl) rfl rfl fun a_13 HE14 => ?_
    refine pl_x HE14 HH10 (wt0 rfl) (x_len Try.underlying34 rfl) rfl rfl fun a_15 HE16 => ?_
    refine pl_x HE16 HH10 (wt0 rfl) (x_lss rfl rfl) rfl rfl fun a_17 HE18 => ?_
    refine wpList_nil ?_
    clear a_6 HE7 HH1 a_8 HE9 a_11 HE12 a_13 HE14 a_15 HE16
    refine nrm ?_
    refine cnd_d HE18 rfl (fun hc22 => ?_) (fun hc22 => ?_)
    · refine wp_skip ?_
      refine nrm ?_
      refine wp_seq ?_
      refine wp_block ?_
      refine wp_seq ?_
      refine rg ?_
      refine pl_x HE18 HH10 (wt0 rfl) (x_move rfl) rfl rfl fun a_19 HE20 => ?_
      refine pl_x HE20 HH10 (wt0 rfl) (x_move rfl) rfl rfl fun a_21 HE22 => ?_
      have ke23 : i < a0.length := by omega
      obtain ⟨be23, fe23, ese23, Ae23, Re23, De23⟩ := el_old h0 ke23
      obtain ⟨e23, xe23⟩ : ∃ x, x = a0[i] := ⟨_, rfl⟩
      rw [← xe23] at Re23
      have Qe23 := Re23
      obtain ⟨Ae23_0, ce23_0, Ae23_1, ce23_1, rfl, ge23_0, ge23_1⟩ := shape_Rewrite Re23
      have le23_0 := ge23_0.len
      have le23_1 := ge23_1.len
      obtain ⟨ze23, hze23⟩ : ∃ y, y = z[i]'(by omega) := ⟨_, rfl⟩
      have hxe23 : e23 = mk_Rewrite ze23 (a1 + (cntL ct_Rewrite (z.take i) : Int)) := by rw [xe23, hze23]; have hq := mkL_get mk_Rewrite ct_Rewrite z a1 i (by omega); have hr : a0[i]? = some _ := (by rw [sz]; exact hq); rw [List.getElem?_eq_getElem (by omega)] at hr; exact Option.some.inj hr
      have hc1 := cntL_take ct_Rewrite z i (by omega)
      have hc2 : cntL ct_Rewrite (z.take (i + 1)) ≤ ct_SRewrite z := cntL_le ct_Rewrite z (i + 1)
      rw [← hze23] at hc1
      have hc3 : ct_Rewrite ze23 = ct_L ze23.1 + ct_L ze23.2 := rfl
      refine pl_x HE22 HH10 (wt0 rfl) (x_indexAddr ts_34 rfl rfl Ae23 rfl ke23) rfl rfl fun a_23 HE24 => ?_
      refine pl_x HE24 HH10 (wt0 rfl) (x_fieldAddr fa_105_0 rfl) rfl rfl fun a_25 HE26 => ?_
      refine pl_x HE26 HH10 (wt0 rfl) (x_load1 tv_31 rfl (c_old (De23 0 _ rfl))) rfl rfl fun a_27 HE28 => ?_
      refine pl_x HE28 HH10 (wt0 rfl) (x_move rfl) rfl rfl fun a_29 HE30 => ?_
      refine pl fun K_31 hK32 => ?_
      refine st_call HE30 (wt0 rfl) rfl rfl rfl en_46 rfl rfl (held_L_e _ _ e23.1 (a1 + (cntL ct_Rewrite (z.take i) : Int)) ze23.1 _ (HH10.old ge23_0) (by rw [hxe23]; rfl) (by omega) (by omega)) fun e w' hr => ?_
      obtain ⟨rfl, hbr24⟩ := hr
      have HH33 := HH10.on hbr24
      clear hbr24
      refine ⟨_, rfl, fun a_34 HE35 => hK32 _ _ ?_⟩
      refine pl_x HE35 HH33 (wt0 rfl) (x_assign rfl) rfl rfl fun a_36 HE37 => ?_
      refine wpList_nil ?_
      clear a_17 HE18 a_19 HE20 a_21 HE22 a_23 HE24 a_25 HE26 a_27 HE28 HH10 a_29 HE30 a_34 HE35 hK32 K_31
      refine nrm ?_
      refine wp_seq ?_
      refine wp_seq ?_
      refine rg ?_
      refine pl_x HE37 HH33 (wt0 rfl) (x_move rfl) rfl rfl fun a_38 HE39 => ?_
      refine pl_x HE39 HH33 (wt0 rfl) (x_lss rfl rfl) rfl rfl fun a_40 HE41 => ?_
      refine wpList_nil ?_
      clear a_36 HE37 a_38 HE39
      refine nrm ?_
      refine cnd_d HE41 rfl (fun hc25 => ?_) (fun hc25 => ?_)
      · refine wp_seq ?_
        refine rg ?_
        refine pl_x HE41 HH33 (wt0 rfl) (x_assign rfl) rfl rfl fun a_42 HE43 => ?_
        refine wpList_nil ?_
        clear a_40 HE41
        refine nrm ?_
        refine wp_ret ?_
        refine (thn_ret (blk_ret (thn_ret (thn_ret (blk_ret (thn_ret ?_))))))
        refine ret1 HE43 rfl (rv_tmp rfl) ?_
        have hF : (a1 + (ct_SRewrite z : Int)) = -1 := by
          first | (exfalso; omega) | (rw [show i = z.length from by omega, List.take_length]; rfl)
        exact ⟨by rw [hF] <;> rfl, HH33.below⟩
      · refine wp_skip ?_
        refine nrm ?_
        refine wp_seq ?_
        refine rg ?_
        refine pl_x HE41 HH33 (wt0 rfl) (x_move rfl) rfl rfl fun a_44 HE45 => ?_
        refine pl_x HE45 HH33 (wt0 rfl) (x_move rfl) rfl rfl fun a_46 HE47 => ?_
        refine pl_x HE47 HH33 (wt0 rfl) (x_indexAddr ts_34 rfl rfl Ae23 rfl ke23) rfl rfl fun a_48 HE49 => ?_
        refine pl_x HE49 HH33 (wt0 rfl) (x_fieldAddr fa_105_1 rfl) rfl rfl fun a_50 HE51 => ?_
        refine pl_x HE51 HH33 (wt0 rfl) (x_load1 tv_31 rfl (c_old (De23 1 _ rfl))) rfl rfl fun a_52 HE53 => ?_
        refine pl_x HE53 HH33 (wt0 rfl) (x_move rfl) rfl rfl fun a_54 HE55 => ?_
        refine pl fun K_56 hK57 => ?_
        refine st_call HE55 (wt0 rfl) rfl rfl rfl en_46 rfl rfl (held_L_e _ _ e23.2 ((a1 + (cntL ct_Rewrite (z.take i) : Int)) + (ct_L ze23.1 : Int)) ze23.2 _ (HH33.old ge23_1) (by rw [hxe23]; rfl) (by omega) (by omega)) fun e w' hr => ?_
        obtain ⟨rfl, hbr26⟩ := hr
        have HH58 := HH33.on hbr26
        clear hbr26
        refine ⟨_, rfl, fun a_59 HE60 => hK57 _ _ ?_⟩
        refine pl_x HE60 HH58 (wt0 rfl) (x_assign rfl) rfl rfl fun a_61 HE62 => ?_
        refine wpList_nil ?_
        clear a_40 HE41 a_44 HE45 a_46 HE47 a_48 HE49 a_50 HE51 a_52 HE53 HH33 a_54 HE55 a_59 HE60 hK57 K_56
        refine nrm ?_
        refine wp_seq ?_
        refine rg ?_
        refine pl_x HE62 HH58 (wt0 rfl) (x_move rfl) rfl rfl fun a_63 HE64 => ?_
        refine pl_x HE64 HH58 (wt0 rfl) (x_lss rfl rfl) rfl rfl fun a_65 HE66 => ?_
        refine wpList_nil ?_
        clear a_61 HE62 a_63 HE64
        refine nrm ?_
        refine cnd_d HE66 rfl (fun hc27 => ?_) (fun hc27 => ?_)
        · refine wp_seq ?_
          refine rg ?_
          refine pl_x HE66 HH58 (wt0 rfl) (x_assign rfl) rfl rfl fun a_67 HE68 => ?_
          refine wpList_nil ?_
          clear a_65 HE66
          refine nrm ?_
          refine wp_ret ?_
          refine (blk_ret (thn_ret (thn_ret (blk_ret (thn_ret ?_)))))
          refine ret1 HE68 rfl (rv_tmp rfl) ?_
          have hF : (a1 + (ct_SRewrite z : Int)) = -1 := by
            first | (exfalso; omega) | (rw [show i = z.length from by omega, List.take_length]; rfl)
          exact ⟨by rw [hF] <;> rfl, HH58.below⟩
        · refine wp_skip ?_
          refine blk_n ?_
          refine nrm ?_
          refine rg ?_
          refine pl_x HE66 HH58 (wt0 rfl) (x_move rfl) rfl rfl fun a_69 HE70 => ?_
          refine pl_x HE70 HH58 (wt0 rfl) (x_add rfl rfl (by exact ⟨by omega, by omega⟩)) rfl rfl fun a_71 HE72 => ?_
          refine pl_x HE72 HH58 (wt0 rfl) (x_assign rfl) rfl rfl fun a_73 HE74 => ?_
          refine wpList_nil ?_
          clear a_65 HE66 a_69 HE70 a_71 HE72
          exact nrm ⟨a0.length - (i + 1), (by omega), i + 1, rfl, HE74.sub ⟨(lkI rfl (by omega)), (lkI rfl (by first | rfl | omega | (simp [p21_0, hc22, xe23, hc25, hc27]; done))), rfl, trivial⟩, (HH58.sel [] (by decide) rfl), (by first | omega | assumption | (simp; done) | simp_all)⟩
    · refine wp_exit ?_
      refine (thn_exit (thn_exit (blk_hit ?_)))
      refine nrm ?_
      refine wp_seq ?_
      refine rg ?_
      refine pl_x HE18 HH10 (wt0 rfl) (x_move rfl) rfl rfl fun a_75 HE76 => ?_
      refine pl_x HE76 HH10 (wt0 rfl) (x_assign rfl) rfl rfl fun a_77 HE78 => ?_
      refine wpList_nil ?_
      clear a_17 HE18 a_75 HE76
      refine nrm ?_
      refine wp_ret ?_
      refine ret1 HE78 rfl (rv_tmp rfl) ?_
      have hF : (a1 + (ct_SRewrite z : Int)) = (a1 + (cntL ct_Rewrite (z.take i) : Int)) := by
        first | (exfalso; omega) | (rw [show i = z.length from by omega, List.take_length]; rfl)
      exact ⟨by rw [hF] <;> rfl, HH10.below⟩

theorem elem_Int64 : Elem Try.prog eInt 31 2 8 := by
  obtain ⟨i0, hi0, hz0, hz1, hz2⟩ := info_parts info_impl_Int64
  exact ⟨Try.underlying31, i0, _, hi0, hz0, hz1, hz2, rfl⟩

set_option maxHeartbeats 400000 in
theorem spec_l00Own (A : Option Addr) (c : Nat) (xs : List Int) (w : World) (h : Sl eInt w (Old w) A c xs) (hsm : xs.length ≤ 1000000000000) :
    Calls Try.prog 90 #[.slice A xs.length c] w fun e w' => ∃ A' c', e = .returned (.slice A' xs.length c') ∧ So eInt w' (Fr w w') A' c' xs ∧ Below w.heap.size w w' := by
  have H := Lib.hid (h.on (below_alloc (Below.refl _ _) (.cells #[] 2))); clear h
  go_enter Try.func90, Try.ntmps90
  go_wp2_with (at_builtin; refine wpList_append_row flat_int elem_Int64 rfl _ _ rfl (base := w.heap.size) rfl (Row.empty (Nat.le_refl _)) rfl H.out (by simp only [List.length_nil]; unfold maxLen; omega) (by simp only [List.length_nil]; omega) (by simp) ?_)
  intro v' w1 hrow hgrow hat
  try rw [List.nil_append] at hrow
  obtain ⟨A', c', rfl, hso⟩ := hrow.so
  have HO := Lib.hid hso
  have HL : Hid (Below w.heap.size w w1) := ((Below.refl _ w).alloc (Nat.le_refl _) _).grown hgrow (by simp) (by intro k hk; simp [Value.ownBlock] at hk; omega)
  clear hrow hgrow hat hso
  go_wp2
  go_ret
  exact ⟨A', c', rfl, HO.out, HL.out⟩

set_option maxHeartbeats 400000 in
theorem Clone_Int64 (A : Option Addr) (c : Nat) (xs : List Int) (w : World) (h : Sl eInt w (Old w) A c xs) (hsm : xs.length ≤ 1000000000000) :
    Calls Try.prog 91 #[.slice A xs.length c] w fun e w' => ∃ A' c', e = .returned (.slice A' xs.length c') ∧ So eInt w' (Fr w w') A' c' xs ∧ Below w.heap.size w w' := by
  have q22 : ∀ (w : World) (a : Option Addr) (n c n' c' : Nat), (binOp .eql 31 (.slice a n c) (.slice none n' c')).run Try.prog w = .ok (.bool a.isNone) w := fun w a n c n' c' => Lib.run_eql_slice_nil w _ _ a n c n' c' Try.underlying31
  cases A with
  | none =>
    have hx : xs = [] := Classical.byContradiction fun hn => by
      obtain ⟨b, off, hA, _⟩ := h.2.2 hn
      cases hA
    subst hx
    clear h
    go_enter Try.func91, Try.ntmps91
    go_wp2
    go_ret
    exact ⟨none, 0, rfl, So.nil (Nat.zero_le _), Below.refl _ _⟩
  | some ad =>
    have H := Lib.hid (h.on (below_alloc (Below.refl _ _) (.cells #[] 2))); clear h
    go_enter Try.func91, Try.ntmps91
    go_wp2_with (at_builtin; refine wpList_append_row flat_int elem_Int64 rfl _ _ rfl (base := w.heap.size) rfl (Row.empty (Nat.le_refl _)) rfl H.out (by simp only [List.length_nil]; unfold maxLen; omega) (by simp only [List.length_nil]; omega) (by simp) ?_)
    intro v' w1 hrow hgrow hat
    try rw [List.nil_append] at hrow
    obtain ⟨A', c', rfl, hso⟩ := hrow.so
    have HO := Lib.hid hso
    have HL : Hid (Below w.heap.size w w1) := ((Below.refl _ w).alloc (Nat.le_refl _) _).grown hgrow (by simp) (by intro k hk; simp [Value.ownBlock] at hk; omega)
    clear hrow hgrow hat hso
    go_wp2
    go_ret
    exact ⟨A', c', rfl, HO.out, HL.out⟩

def outB (lo hi n : Int) : Bool := !withinB n lo hi

def allW (xs : List Int) (lo hi : Int) : Bool := !xs.any (outB lo hi)

def isWord (xs : List Int) : Bool := decide (xs.length ≤ 400) && allW xs 0 9

theorem impl_allWithin (A : Option Addr) (c : Nat) (xs : List Int) (lo hi : Int) (w : World) (h : Sl eInt w (Old w) A c xs) :
    Calls Try.prog 88 #[.slice A xs.length c, .int .i64 lo, .int .i64 hi] w fun e w' => e = .returned (.bool (allW xs lo hi)) ∧ w = w' := by
  have hlen := h.len
  have H := Lib.hid h; clear h
  unfold allW
  go_enter Try.func88, Try.ntmps88
  go_wp2
  go_loop [8, 11] (fun _ i => ∃ k : Nat, k ≤ xs.length ∧ i = .int .i64 k ∧ Hid ((xs.take k).any (outB lo hi) = false)) (fun _ i => xs.length - (intOf i).toNat)
  case atStart => exact ⟨0, Nat.zero_le _, rfl, rfl⟩
  case round =>
    obtain ⟨k, hk, rfl, HN⟩ := hrel
    by_cases hlt : k < xs.length
    · have hltz : (k : Int) < (xs.length : Int) := by omega
      obtain ⟨b, off, es, rfl, hb, ⟨rfl, _⟩, hc⟩ := H.out.at1 rfl hlt
      have d0 : w.cell? ⟨b, off + k, none⟩ = some (.int .i64 xs[k]) := hc _ rfl
      clear hc
      have HT : Hid (outB lo hi xs[k] = true → xs.any (outB lo hi) = true) := fun e => any_hit hlt e
      have HS : Hid (outB lo hi xs[k] = false → (xs.take (k + 1)).any (outB lo hi) = false) := fun e => any_step hlt HN.out e
      generalize xs[k] = y at d0 HT HS
      cases q1 : withinB y lo hi
      · go_wp2_with (go_at_call 69; refine (impl_within _ _ _ _).mono ?_; rintro e w' ⟨rfl, rfl⟩; rw [q1])
        go_ret
        exact ⟨by rw [HT.out (by unfold outB; rw [q1]; rfl)]; rfl, rfl⟩
      · go_wp2_with (go_at_call 69; refine (impl_within _ _ _ _).mono ?_; rintro e w' ⟨rfl, rfl⟩; rw [q1])
        go_round
        case rel => exact ⟨k + 1, by omega, by go_num, HS.out (by unfold outB; rw [q1]; rfl)⟩
        case measure => simp [intOf]; omega
    · have hltz : ¬ (k : Int) < (xs.length : Int) := by omega
      obtain rfl : k = xs.length := by omega
      go_wp2
      go_ret
      have hn := HN.out
      rw [List.take_length] at hn
      exact ⟨ret_bool (by rw [hn]; rfl), rfl⟩

theorem impl_isLetters (A : Option Addr) (c : Nat) (xs : List Int) (w : World) (h : Sl eInt w (Old w) A c xs) :
    Calls Try.prog 148 #[.slice A xs.length c] w fun e w' => e = .returned (.bool (allW xs 0 9)) ∧ w = w' := by
  have H := Lib.hid h; clear h
  go_enter Try.func148, Try.ntmps148
  go_wp2_with (go_at_call 88; refine (impl_allWithin _ _ _ _ _ _ H.out).mono ?_; rintro e w' ⟨rfl, rfl⟩)
  go_ret
  exact ⟨rfl, rfl⟩

theorem impl_IsWord (A : Option Addr) (c : Nat) (xs : List Int) (w : World) (h : Sl eInt w (Old w) A c xs) :
    Calls Try.prog 80 #[.slice A xs.length c] w fun e w' => e = .returned (.bool (isWord xs)) ∧ w = w' := by
  have H := Lib.hid h; clear h
  by_cases h1 : xs.length ≤ 400
  · have h1' : decide ((xs.length : Int) ≤ 400) = true := by simp; omega
    rw [show isWord xs = allW xs 0 9 from by unfold isWord; simp [h1]]
    go_enter Try.func80, Try.ntmps80
    go_wp2_with (go_at_call 148; refine (impl_isLetters _ _ _ _ H.out).mono ?_; rintro e w' ⟨rfl, rfl⟩)
    go_ret
    exact ⟨rfl, rfl⟩
  · have h1' : decide ((xs.length : Int) ≤ 400) = false := by simp; omega
    rw [show isWord xs = false from by unfold isWord; simp [h1]]
    go_enter Try.func80, Try.ntmps80
    go_wp2_with fail
    go_ret
    exact ⟨rfl, rfl⟩

theorem enters_areWords1 : ∀ args w, (callFunc 184 args).run Try.prog w = .ok (.enter 184 args) w := enters_of Try.func184 (by kernel_rfl) rfl

def notWord (xs : List Int) : Bool := !isWord xs

theorem impl_areWords1 (es : List Value) (xs : List Int) (w : World) (h : (eSl eInt).R w (Old w) es xs) :
    Calls Try.prog 184 #[es[0]!] w fun e w' => e = .returned (.bool (notWord xs)) ∧ Below w.heap.size w w' := by
  obtain ⟨A, c, rfl, h⟩ := h
  have H := Lib.hid h; clear h
  show Calls Try.prog 184 #[.slice A xs.length c] w _
  go_enter Try.func184, Try.ntmps184
  go_wp2_with (go_at_call 80; refine (impl_IsWord _ _ _ _ H.out).mono ?_; rintro e w' ⟨rfl, rfl⟩)
  go_ret
  exact ⟨rfl, Below.refl _ _⟩

theorem impl_areWords (A : Option Addr) (c : Nat) (xs : List (List Int)) (w : World) (h : Sl (eSl eInt) w (Old w) A c xs) :
    Calls Try.prog 147 #[.slice A xs.length c] w fun e w' => e = .returned (.bool (!xs.any notWord)) ∧ Below w.heap.size w w' := by
  have hI := Lib.hid (ContainsFunc_Int64S notWord 184 #[] A c xs w h enters_areWords1 (fun W x es _ hb hR => impl_areWords1 es x W hR)); clear h
  go_enter Try.func147, Try.ntmps147
  go_wp2_with (go_at_call 183; refine hI.out.mono ?_; rintro e w' ⟨rfl, hb⟩)
  go_ret
  exact ⟨rfl, hb⟩

theorem sl_two {α : Type} {E : Enc α} {w : World} {S : Nat → Prop} {g : Nat} {t : TypeId} {A0 A1 : Option Addr} {c0 c1 : Nat} {x0 x1 : List α} (hB : Blk w g t #[.slice A0 x0.length c0, .slice A1 x1.length c1]) (hg : S g) (h0 : Sl E w S A0 c0 x0) (h1 : Sl E w S A1 c1 x1) :
    Sl (eSl E) w S (some ⟨g, 0, none⟩) 2 [x0, x1] :=
  ⟨Nat.le_refl _, by unfold maxLen; omega, fun _ => ⟨g, 0, rfl, hg, fun i x hx => by
    rcases i with _ | _ | i
    · simp at hx; subst hx
      refine ⟨_, ⟨A0, c0, rfl, h0⟩, fun j v hv => ?_⟩
      rcases j with _ | j
      · simp at hv; subst hv; exact hB.cell 0
      · simp at hv
    · simp at hx; subst hx
      refine ⟨_, ⟨A1, c1, rfl, h1⟩, fun j v hv => ?_⟩
      rcases j with _ | j
      · simp at hv; subst hv; exact hB.cell 1
      · simp at hv
    · simp at hx⟩⟩

def rewBad (x : tRewrite) : Bool := !(isWord x.1 && isWord x.2) || decide (x.1.length = 0)

theorem enters_ValidRewrites1 : ∀ args w, (callFunc 146 args).run Try.prog w = .ok (.enter 146 args) w := enters_of Try.func146 (by kernel_rfl) rfl

theorem any_two (a b : List Int) : (!([a, b].any notWord)) = (isWord a && isWord b) := by
  simp [notWord]

set_option maxHeartbeats 400000 in
theorem impl_ValidRewrites1 (es : List Value) (x : tRewrite) (w : World) (h : eRewrite.R w (Old w) es x) :
    Calls Try.prog 146 #[.agg es.toArray] w fun e w' => e = .returned (.bool (rewBad x)) ∧ Below w.heap.size w w' := by
  obtain ⟨A0, c0, A1, c1, rfl, g0, g1⟩ := shape_Rewrite h
  clear h
  have hlen := g0.len
  have hB1 : Below w.heap.size w ((w.alloc (.cells #[.slice A0 x.1.length c0, .slice A1 x.2.length c1] 105)).alloc (.cells #[.slice A0 x.1.length c0, .slice A1 x.2.length c1] 31)) := by go_grown
  have HW := Lib.hid (impl_areWords _ 2 [x.1, x.2] _ (sl_two (Blk.new1 w (.cells #[.slice A0 x.1.length c0, .slice A1 x.2.length c1] 105) 31 #[.slice A0 x.1.length c0, .slice A1 x.2.length c1]) (by show _ < _; simp) (g0.on hB1) (g1.on hB1)))
  have HB1 := Lib.hid hB1; clear hB1 g0 g1
  cases hq : isWord x.1 && isWord x.2
  · rw [show rewBad x = true from by unfold rewBad; rw [hq]; rfl]
    go_enter Try.func146, Try.ntmps146
    go_wp2_with (go_at_call 147; refine HW.out.mono ?_; rintro e w1 ⟨rfl, hb⟩; rw [any_two, hq])
    go_ret
    exact ⟨rfl, below_trans HB1.out hb⟩
  · rw [show rewBad x = decide (x.1.length = 0) from by unfold rewBad; rw [hq]; rfl]
    go_enter Try.func146, Try.ntmps146
    go_wp2_with fail
    refine HW.out.mono ?_
    rintro e w1 ⟨rfl, hb⟩
    rw [any_two, hq]
    have x0 : w1.cell? ⟨w.heap.size, 0, none⟩ = some (.slice A0 x.1.length c0) := (((Blk.new w 105 #[.slice A0 x.1.length c0, .slice A1 x.2.length c1]).alloc _).on hb).cell 0
    have HB2 := Lib.hid (below_trans HB1.out hb); clear hb
    go_wp2
    go_ret
    exact ⟨ret_bool (len_beq _), HB2.out⟩

def validRew (xs : List tRewrite) : Bool := withinB xs.length 1 60 && !xs.any rewBad

theorem impl_ValidRewrites (A : Option Addr) (c : Nat) (xs : List tRewrite) (w : World) (h : Sl eRewrite w (Old w) A c xs) :
    Calls Try.prog 79 #[.slice A xs.length c] w fun e w' => e = .returned (.bool (validRew xs)) ∧ Below w.heap.size w w' := by
  unfold validRew
  have hI := Lib.hid (ContainsFunc_Rewrite rewBad 146 #[] A c xs w h enters_ValidRewrites1 (fun W x es _ hb hR => impl_ValidRewrites1 es x W hR)); clear h
  cases h1 : withinB xs.length 1 60
  · go_enter Try.func79, Try.ntmps79
    go_wp2_with (first | (go_at_call 144; refine (impl_size_Rewrite _ _ _ _).mono ?_; rintro e w' ⟨rfl, rfl⟩) | (go_at_call 69; refine (impl_within _ _ _ _).mono ?_; rintro e w' ⟨rfl, rfl⟩; rw [h1]))
    go_ret
    exact ⟨by simp, Below.refl _ _⟩
  · go_enter Try.func79, Try.ntmps79
    go_wp2_with (first | (go_at_call 144; refine (impl_size_Rewrite _ _ _ _).mono ?_; rintro e w' ⟨rfl, rfl⟩) | (go_at_call 69; refine (impl_within _ _ _ _).mono ?_; rintro e w' ⟨rfl, rfl⟩; rw [h1]) | (go_at_call 145; refine hI.out.mono ?_; rintro e w' ⟨rfl, hb⟩))
    go_ret
    exact ⟨by simp, hb⟩

theorem spec_l03Is (A : Option Addr) (c : Nat) (xs : List Int) (w : World) (h : Sl eInt w (Old w) A c xs) :
    Calls Try.prog 76 #[.slice A xs.length c] w fun e w' => e = .returned (.bool (isWord xs)) ∧ w = w' := by
  have hlen := h.len
  have H := Lib.hid h; clear h
  have HV : Hid (isWord xs = (decide (xs.length ≤ 400) && !xs.any (outB 0 9))) := rfl
  go_enter Try.func76, Try.ntmps76
  go_wp2
  go_loop [3] (fun i => ∃ k : Nat, k ≤ xs.length ∧ i = .int .i64 k ∧ Hid ((xs.take k).any (outB 0 9) = false)) (fun i => xs.length - (intOf i).toNat)
  case atStart => exact ⟨0, Nat.zero_le _, rfl, rfl⟩
  case round =>
    obtain ⟨k, hk, rfl, HN⟩ := hrel
    by_cases hlt : k < xs.length
    · have hltz : (k : Int) < (xs.length : Int) := by omega
      obtain ⟨b, off, es, rfl, hb, ⟨rfl, _⟩, hc⟩ := H.out.at1 rfl hlt
      have d0 : w.cell? ⟨b, off + k, none⟩ = some (.int .i64 xs[k]) := hc _ rfl
      clear hc
      have HT : Hid (outB 0 9 xs[k] = true → xs.any (outB 0 9) = true) := fun e => any_hit hlt e
      have HS : Hid (outB 0 9 xs[k] = false → (xs.take (k + 1)).any (outB 0 9) = false) := fun e => any_step hlt HN.out e
      generalize xs[k] = y at d0 HT HS
      cases q1 : withinB y 0 9
      · go_wp2_with (go_at_call 67; refine (spec_l00In _ _ _ _).mono ?_; rintro e w' ⟨rfl, rfl⟩; rw [q1])
        go_ret
        exact ⟨ret_bool (by rw [HV.out, HT.out (by unfold outB; rw [q1]; rfl)]; simp), rfl⟩
      · go_wp2_with (go_at_call 67; refine (spec_l00In _ _ _ _).mono ?_; rintro e w' ⟨rfl, rfl⟩; rw [q1])
        go_round
        case rel => exact ⟨k + 1, by omega, by go_num, HS.out (by unfold outB; rw [q1]; rfl)⟩
        case measure => simp [intOf]; omega
    · have hltz : ¬ (k : Int) < (xs.length : Int) := by omega
      obtain rfl : k = xs.length := by omega
      go_wp2
      go_ret
      have hn := HN.out
      rw [List.take_length] at hn
      exact ⟨ret_bool (by rw [HV.out, hn]; simp; omega), rfl⟩

set_option maxHeartbeats 1000000 in
theorem spec_l10Is (A : Option Addr) (c : Nat) (xs : List tRewrite) (w : World) (h : Sl eRewrite w (Old w) A c xs) :
    Calls Try.prog 75 #[.slice A xs.length c] w fun e w' => e = .returned (.bool (validRew xs)) ∧ w = w' := by
  have hlen := h.len
  have H := Lib.hid h; clear h
  by_cases h1 : xs.length < 1
  · rw [show validRew xs = false from by unfold validRew withinB; simp; omega]
    have h1' : (xs.length : Int) < 1 := by omega
    go_enter Try.func75, Try.ntmps75
    go_wp2
    go_ret
    exact ⟨rfl, rfl⟩
  by_cases h2 : xs.length > 60
  · rw [show validRew xs = false from by unfold validRew withinB; simp; omega]
    have h1' : decide ((xs.length : Int) < 1) = false := by simp; omega
    have h2' : (60 : Int) < (xs.length : Int)  := by omega
    go_enter Try.func75, Try.ntmps75
    go_wp2
    go_ret
    exact ⟨rfl, rfl⟩
  rw [show validRew xs = !xs.any rewBad from by unfold validRew; rw [withinB_true.2 (by omega)]; rfl]
  have h1' : decide ((xs.length : Int) < 1) = false := by simp; omega
  have h2' : decide ((60 : Int) < (xs.length : Int)) = false := by simp; omega
  go_enter Try.func75, Try.ntmps75
  go_wp2
  go_loop [3] (fun i => ∃ k : Nat, k ≤ xs.length ∧ i = .int .i64 k ∧ Hid ((xs.take k).any rewBad = false)) (fun i => xs.length - (intOf i).toNat)
  case atStart => exact ⟨0, Nat.zero_le _, rfl, rfl⟩
  case round =>
    obtain ⟨k, hk, rfl, HN⟩ := hrel
    by_cases hlt : k < xs.length
    · have hltz : (k : Int) < (xs.length : Int) := by omega
      obtain ⟨b, off, es, rfl, hb, hR, hc⟩ := H.out.at hlt
      obtain ⟨A0, c0, A1, c1, rfl, g0, g1⟩ := shape_Rewrite hR
      have d0 : w.cell? ⟨b, off + k * 2, none⟩ = some (.slice A0 xs[k].1.length c0) := hc 0 _ rfl
      have d1 : w.cell? ⟨b, off + k * 2 + 1, none⟩ = some (.slice A1 xs[k].2.length c1) := hc 1 _ rfl
      clear hc hR
      have hl0 := g0.len
      have HG0 := Lib.hid (spec_l03Is _ _ _ w g0); clear g0
      have HG1 := Lib.hid (spec_l03Is _ _ _ w g1); clear g1
      have HT : Hid (rewBad xs[k] = true → xs.any rewBad = true) := fun e => any_hit hlt e
      have HS : Hid (rewBad xs[k] = false → (xs.take (k + 1)).any rewBad = false) := fun e => any_step hlt HN.out e
      generalize xs[k] = y at d0 d1 HT HS HG0 HG1 hl0
      cases q0 : isWord y.1
      · have HF := Lib.hid (HT.out (by unfold rewBad; rw [q0]; rfl))
        go_wp2_with fail
        refine HG0.out.mono ?_
        rintro e w' ⟨rfl, rfl⟩
        rw [q0]
        go_wp2
        go_ret
        exact ⟨by rw [HF.out]; rfl, rfl⟩
      cases q1 : isWord y.2
      · have HF := Lib.hid (HT.out (by unfold rewBad; rw [q0, q1]; rfl))
        go_wp2_with fail
        refine HG0.out.mono ?_
        rintro e w' ⟨rfl, rfl⟩
        rw [q0]
        go_wp2_with fail
        refine HG1.out.mono ?_
        rintro e w' ⟨rfl, rfl⟩
        rw [q1]
        go_wp2
        go_ret
        exact ⟨by rw [HF.out]; rfl, rfl⟩
      by_cases q2 : y.1.length = 0
      · have q2' : ((y.1.length : Int) == 0) = true := by rw [len_beq]; exact decide_eq_true q2
        have HF := Lib.hid (HT.out (by unfold rewBad; rw [q0, q1]; simp [q2]))
        clear q2
        go_wp2_with fail
        refine HG0.out.mono ?_
        rintro e w' ⟨rfl, rfl⟩
        rw [q0]
        go_wp2_with fail
        refine HG1.out.mono ?_
        rintro e w' ⟨rfl, rfl⟩
        rw [q1]
        go_wp2
        go_ret
        exact ⟨by rw [HF.out]; rfl, rfl⟩
      · have q2' : ((y.1.length : Int) == 0) = false := by rw [len_beq]; exact decide_eq_false q2
        have HF := Lib.hid (HS.out (by unfold rewBad; rw [q0, q1]; simp [q2]))
        clear q2
        go_wp2_with fail
        refine HG0.out.mono ?_
        rintro e w' ⟨rfl, rfl⟩
        rw [q0]
        go_wp2_with fail
        refine HG1.out.mono ?_
        rintro e w' ⟨rfl, rfl⟩
        rw [q1]
        go_wp2
        go_round
        case rel => exact ⟨k + 1, by omega, by go_num, HF.out⟩
        case measure => simp [intOf]; omega
    · have hltz : ¬ (k : Int) < (xs.length : Int) := by omega
      obtain rfl : k = xs.length := by omega
      go_wp2
      go_ret
      have hn := HN.out
      rw [List.take_length] at hn
      exact ⟨ret_bool (by rw [hn]; rfl), rfl⟩

theorem left_ok {l : Int} {n : Nat} (h : ¬ left l n < 0) : left l n = l - (n : Int) ∧ (n : Int) ≤ l := by
  unfold left at *; split at h <;> simp_all <;> omega

def revRw (r : tRewrite) : tRewrite := (r.2, r.1)

def emptyTo (r : tRewrite) : Bool := decide (r.2.length = 0)

def reverseRw (list : List tRewrite) : List tRewrite × Int := if validRew list then (if list.any emptyTo then ([], 6) else (list.map revRw, 0)) else ([], 1)

theorem validRew_len2 {list : List tRewrite} (h : validRew list = true) : ∀ r ∈ list, r.1.length ≤ 400 ∧ r.2.length ≤ 400 := by
  intro r hr
  unfold validRew at h
  simp at h
  have := h.2 _ _ hr
  unfold rewBad isWord at this
  simp at this
  omega

theorem validRew_60 {list : List tRewrite} (h : validRew list = true) : list.length ≤ 60 := by
  unfold validRew at h
  simp only [Bool.and_eq_true] at h
  have := withinB_true.1 h.1
  omega

set_option maxRecDepth 100000 in
set_option maxHeartbeats 4000000 in
theorem impl_ReverseRewrites (A0 : Option Addr) (c0 : Nat) (a0 : (List tRewrite)) (w : World) (h0 : Sl eRewrite w (Old w) A0 c0 a0) :
    Calls Try.prog 38 #[.slice A0 a0.length c0] w fun e w' => ∃ (A0' : Option Addr) (c0' : Nat), e = .returned (.tuple #[.slice A0' (reverseRw a0).1.length c0', .int .i64 (reverseRw a0).2]) ∧ So eRewrite w' (Fr w w') A0' c0' (reverseRw a0).1 ∧ Below w.heap.size w w' := by
  have l0 := h0.len
  have HH1 := Held.start Nob w
  refine enter (n := 33) Try.func38 rfl rfl rfl fun a_2 HE3 => ?_
  refine wp_seq ?_
  refine rg ?_
  refine pl_x HE3 HH1 (wt0 rfl) (x_assign rfl) rfl rfl fun a_4 HE5 => ?_
  refine pl_x HE5 HH1 (wt0 rfl) (x_assign rfl) rfl rfl fun a_6 HE7 => ?_
  refine wpList_nil ?_
  clear a_2 HE3 a_4 HE5
  refine nrm ?_
  refine wp_seq ?_
  refine wp_seq ?_
  refine rg ?_
  refine pl_x HE7 HH1 (wt0 rfl) (x_move rfl) rfl rfl fun a_8 HE9 => ?_
  refine pl fun K_10 hK11 => ?_
  refine st_call HE9 (wt0 rfl) rfl rfl rfl en_79 rfl rfl (impl_ValidRewrites _ _ a0 _ (HH1.old h0)) fun e w' hr => ?_
  obtain ⟨rfl, hbr21⟩ := hr
  have HH12 := HH1.on hbr21
  refine ⟨_, rfl, fun a_13 HE14 => hK11 _ _ ?_⟩
  refine pl_x HE14 HH12 (wt0 rfl) (x_not rfl) rfl rfl fun a_15 HE16 => ?_
  refine wpList_nil ?_
  clear a_6 HE7 HH1 a_8 HE9 a_13 HE14 hK11 K_10
  refine nrm ?_
  refine cnd_nb HE16 rfl (fun hc22 => ?_) (fun hc22 => ?_)
  · refine wp_seq ?_
    refine rg ?_
    refine pl_x HE16 HH12 (wt0 rfl) (x_assign rfl) rfl rfl fun a_17 HE18 => ?_
    refine pl_x HE18 HH12 (wt0 rfl) (x_assign rfl) rfl rfl fun a_19 HE20 => ?_
    refine wpList_nil ?_
    clear a_15 HE16 a_17 HE18
    refine nrm ?_
    refine wp_ret ?_
    refine (thn_ret ?_)
    refine ret2 HE20 rfl (rv_tmp rfl) (rv_tmp rfl) ?_
    have hF : (reverseRw a0) = ([], 1) := by
      first | (unfold reverseRw; simp [hc22]; done) | (unfold reverseRw; rw [if_pos ‹_›, if_pos (any_hit (by omega : k < a0.length) (by rw [← xe0]; exact decide_eq_true (by omega)))]) | (unfold reverseRw; have h1 := p0_1; rw [List.take_of_length_le (by omega)] at h1; rw [if_pos ‹_›, h1, List.take_of_length_le (by omega)]; rfl)
    exact ⟨none, 0, by rw [hF] <;> rfl, by rw [hF]; exact (So.nil (Nat.zero_le _)), HH12.below⟩
  · refine wp_skip ?_
    refine nrm ?_
    refine wp_seq ?_
    refine rg ?_
    refine pl fun K_21 hK22 => ?_
    refine st_lit (m := 0) (cs := []) (e := 105) HE16 HH12 (run_lit ts_34 HE16 (vs := []) rfl rfl (by simp [Value.cells]) rfl (by decide)) (wt0 rfl) rfl rfl fun q23 a_23 w' HE24 HH25 => hK22 _ _ ?_
    refine pl_x HE24 HH25 (wt0 rfl) (x_assign rfl) rfl rfl fun a_26 HE27 => ?_
    refine wpList_nil ?_
    clear a_15 HE16 HH12 a_23 HE24 hK22 K_21
    refine nrm ?_
    refine wp_seq ?_
    refine wp_seq ?_
    refine rg ?_
    refine pl_x HE27 HH25 (wt0 rfl) (x_move rfl) rfl rfl fun a_28 HE29 => ?_
    refine pl_x HE29 HH25 (wt0 rfl) (x_len Try.underlying34 rfl) rfl rfl fun a_30 HE31 => ?_
    refine pl_x HE31 HH25 (wt0 rfl) (x_move rfl) rfl rfl fun a_32 HE33 => ?_
    refine wpList_nil ?_
    clear a_26 HE27 a_28 HE29 a_30 HE31
    refine nrm ?_
    refine wp_block ?_
    have HH34 := Held.vecFlat (E := eRewrite) (xs := []) (css := []) HH25 rfl (Nat.zero_le _) (fun i x hx => by simp at hx)
    refine lp (fun m a w' => ∃ (k : Nat) (A_4 : Option Addr) (c_4 : Nat) (S_4 : Nat → Prop), m = a0.length - k ∧ Env 33 [(4, .slice A_4 (List.length ((a0.take k).map revRw)) c_4), (13, .int .i64 (k : Int)), (11, .slice A0 (a0.length) c0), (12, .int .i64 ((a0.length : Int)))] a ∧ Held Nob w [rVec eRewrite 105 S_4 A_4 c_4 ((a0.take k).map revRw)] w' ∧ (k ≤ a0.length) ∧ ((a0.take k).any emptyTo = false)) (a0.length - (0)) ?_ ?_
    · have E24 : (a0.take 0).map revRw = ([] : List tRewrite) := by
        first | rfl | simp
      exact ⟨0, (some ⟨q23, 0, none⟩), (List.length (α := tRewrite) []), (fun b => b = q23), rfl, HE33.sub ⟨(by rw [E24]; rfl), (lkI rfl (by first | rfl | omega | (simp [hc22]; done))), rfl, rfl, trivial⟩, ((HH34.sel [0] (by decide) rfl).to (by first | rfl | (rw [E24]; done) | (rw [E24]; rfl) | (simp only [E24]; done) | (simp only [E24]; rfl))), (by first | omega | assumption | (simp; done) | simp_all), (by rfl)⟩
    · rintro m a_35 w' ⟨k, A_4, c_4, S_4, rfl, HE36, HH37, p25_0, p25_1⟩
      have ol : ((a0.take k).map revRw).length ≤ 60 := by have := validRew_60 (list := a0) ‹_›; simp; omega
      refine wp_seq ?_
      refine rg ?_
      refine pl_x HE36 HH37 (wt0 rfl) (x_lss rfl rfl) rfl rfl fun a_38 HE39 => ?_
      refine wpList_nil ?_
      clear HH25 a_32 HE33 HH34 a_35 HE36
      refine nrm ?_
      refine wp_seq ?_
      refine cnd_d HE39 rfl (fun hc26 => ?_) (fun hc26 => ?_)
      · refine wp_skip ?_
        refine nrm ?_
        refine wp_seq ?_
        refine wp_block ?_
        refine wp_seq ?_
        refine rg ?_
        have ke27 : k < a0.length := by omega
        obtain ⟨be27, fe27, ese27, Ae27, Re27, De27⟩ := el_old h0 ke27
        obtain ⟨e27, xe27⟩ : ∃ x, x = a0[k] := ⟨_, rfl⟩
        rw [← xe27] at Re27
        have Qe27 := Re27
        obtain ⟨Ae27_0, ce27_0, Ae27_1, ce27_1, rfl, ge27_0, ge27_1⟩ := shape_Rewrite Re27
        have le27_0 := ge27_0.len
        have le27_1 := ge27_1.len
        have se27 := validRew_len2 ‹_› e27 (by rw [xe27]; exact List.getElem_mem _)
        refine pl_x HE39 HH37 (wt0 rfl) (x_indexAddr ts_34 rfl rfl Ae27 rfl ke27) rfl rfl fun a_40 HE41 => ?_
        refine pl_x HE41 HH37 (wt0 rfl) (x_loadN (cs := [.slice Ae27_0 (e27.1.length) ce27_0, .slice Ae27_1 (e27.2.length) ce27_1]) tv_105 rfl rfl (c_oldN De27)) rfl rfl fun a_42 HE43 => ?_
        refine pl fun K_44 hK45 => ?_
        refine st_alloc HE43 HH37 tv_105 (wt0 rfl) rfl fun q28 a_46 w' HE47 HH48 => hK45 _ _ ?_
        refine pl fun K_49 hK50 => ?_
        refine st_store (vs := [.slice Ae27_0 (e27.1.length) ce27_0, .slice Ae27_1 (e27.2.length) ce27_1]) 0 HE47 HH48 tv_105 rfl rfl rfl rfl rfl rfl (by simp [Value.oneCell']) (wt0 rfl) fun w' HH51 => hK50 _ _ ?_
        refine wpList_nil ?_
        clear a_38 HE39 a_40 HE41 a_42 HE43 HH37 K_44 hK45 HH48 hK50 K_49
        refine nrm ?_
        refine wp_seq ?_
        refine wp_seq ?_
        refine rg ?_
        refine pl_x HE47 HH51 (wt0 rfl) (x_fieldAddr fa_105_1 rfl) rfl rfl fun a_52 HE53 => ?_
        refine pl_x HE53 HH51 (wt0 rfl) (x_load1 tv_31 rfl (c_blk 0 rfl rfl)) rfl rfl fun a_54 HE55 => ?_
        refine pl_x HE55 HH51 (wt0 rfl) (x_len Try.underlying31 rfl) rfl rfl fun a_56 HE57 => ?_
        refine pl_x HE57 HH51 (wt0 rfl) (x_eql rfl rfl) rfl rfl fun a_58 HE59 => ?_
        refine wpList_nil ?_
        clear a_46 HE47 a_52 HE53 a_54 HE55 a_56 HE57
        refine nrm ?_
        refine cnd_e HE59 rfl (fun hc29 => ?_) (fun hc29 => ?_)
        · refine wp_seq ?_
          refine rg ?_
          refine pl_x HE59 HH51 (wt0 rfl) (x_assign rfl) rfl rfl fun a_60 HE61 => ?_
          refine pl_x HE61 HH51 (wt0 rfl) (x_assign rfl) rfl rfl fun a_62 HE63 => ?_
          refine wpList_nil ?_
          clear a_58 HE59 a_60 HE61
          refine nrm ?_
          refine wp_ret ?_
          refine (thn_ret (blk_ret (thn_ret (thn_ret (blk_ret (thn_ret ?_))))))
          refine ret2 HE63 rfl (rv_tmp rfl) (rv_tmp rfl) ?_
          have hF : (reverseRw a0) = ([], 6) := by
            first | (unfold reverseRw; simp [hc22, p25_0, p25_1, hc26, xe27, hc29]; done) | (unfold reverseRw; rw [if_pos ‹_›, if_pos (any_hit (by omega : k < a0.length) (by rw [← xe27]; exact decide_eq_true (by omega)))]) | (unfold reverseRw; have h1 := p25_1; rw [List.take_of_length_le (by omega)] at h1; rw [if_pos ‹_›, h1, List.take_of_length_le (by omega)]; rfl)
          exact ⟨none, 0, by rw [hF] <;> rfl, by rw [hF]; exact (So.nil (Nat.zero_le _)), HH51.below⟩
        · refine wp_skip ?_
          refine nrm ?_
          refine dr_start (Held Nob w [rBlk q28 105 [.slice Ae27_0 (e27.1.length) ce27_0, .slice Ae27_1 (e27.2.length) ce27_1]]) 11 #[false, false, false, false, false, false, false, false, false, false, false] hmix rfl rfl HH51 (fun _ h => h.sel [0] (by decide) rfl) fun w' HH64 => ?_
          have HS65 := HH64.sel [0] (by decide) rfl
          refine dr_take (i := 0) (ls' := #[true, false, false, false, false, false, false, false, false, false, false]) HE59 HS65 rfl (by kernel_rfl) (by kernel_rfl) (by kernel_rfl) (fun _ _ _ h => h) rfl (wt0 rfl) (x_move rfl) rfl rfl fun a_66 HE67 => ?_
          refine dr_take (i := 1) (ls' := #[true, true, false, false, false, false, false, false, false, false, false]) HE67 HS65 rfl (by kernel_rfl) (by kernel_rfl) (by kernel_rfl) (fun _ _ _ h => h) rfl (wt0 rfl) (x_fieldAddr fa_105_1 rfl) rfl rfl fun a_68 HE69 => ?_
          refine dr_take (i := 2) (ls' := #[true, true, true, false, false, false, false, false, false, false, false]) HE69 HS65 rfl (by kernel_rfl) (by kernel_rfl) (by kernel_rfl) (fun _ _ _ h => h) rfl (wt0 rfl) (x_load1 tv_31 rfl (c_blk 0 rfl rfl)) rfl rfl fun a_70 HE71 => ?_
          refine dr_take (i := 4) (ls' := #[true, true, true, false, true, false, false, false, false, false, false]) HE71 HS65 rfl (by kernel_rfl) (by kernel_rfl) (by kernel_rfl) (fun _ _ _ h => h) rfl (wt0 rfl) (x_fieldAddr fa_105_0 rfl) rfl rfl fun a_72 HE73 => ?_
          refine dr_take (i := 5) (ls' := #[true, true, true, false, true, true, false, false, false, false, false]) HE73 HS65 rfl (by kernel_rfl) (by kernel_rfl) (by kernel_rfl) (fun _ _ _ h => h) rfl (wt0 rfl) (x_load1 tv_31 rfl (c_blk 0 rfl rfl)) rfl rfl fun a_74 HE75 => ?_
          refine dr_one (i := 3) (ls' := #[true, true, true, true, true, true, false, false, false, false, false]) rfl (by kernel_rfl) rfl fun K_76 hK77 => ?_
          refine st_call HE75 (wt0 rfl) rfl rfl rfl en_91 rfl rfl (Clone_Int64 _ _ e27.2 _ (HH64.old ge27_1) (by omega)) fun e w' hr => ?_
          obtain ⟨Ar30_0, cr30_0, rfl, hor30_0, hbr30⟩ := hr
          obtain ⟨Sr30, HH78⟩ := HH64.newS hbr30 hor30_0
          refine ⟨_, rfl, fun a_79 HE80 => hK77 _ _ (by exact HH78.sel [1] (by decide) rfl) ?_⟩
          have HS81 := HH78.sel [1] (by decide) rfl
          refine dr_one (i := 6) (ls' := #[true, true, true, true, true, true, true, false, false, false, false]) rfl (by kernel_rfl) rfl fun K_82 hK83 => ?_
          refine st_call HE80 (wt0 rfl) rfl rfl rfl en_91 rfl rfl (Clone_Int64 _ _ e27.1 _ (HH78.old ge27_0) (by omega)) fun e w' hr => ?_
          obtain ⟨Ar31_0, cr31_0, rfl, hor31_0, hbr31⟩ := hr
          obtain ⟨Sr31, HH84⟩ := HH78.newS hbr31 hor31_0
          refine ⟨_, rfl, fun a_85 HE86 => hK83 _ _ (by exact HH84.sel [2] (by decide) rfl) ?_⟩
          have HS87 := HH84.sel [2] (by decide) rfl
          refine dr_take (i := 7) (ls' := #[true, true, true, true, true, true, true, true, false, false, false]) HE86 HS87 rfl (by kernel_rfl) (by kernel_rfl) (by kernel_rfl) (fun _ _ _ h => h) rfl (wt0 rfl) (show XS _ _ _ _ (.agg #[.slice Ar30_0 (e27.2.length) cr30_0, .slice Ar31_0 (e27.1.length) cr31_0]) from x_build (vs := [(0, .slice Ar30_0 (e27.2.length) cr30_0), (1, .slice Ar31_0 (e27.1.length) cr31_0)]) tb_105 rfl (by simp [Value.oneCell'])) rfl rfl fun a_88 HE89 => ?_
          refine dr_one (i := 8) (ls' := #[true, true, true, true, true, true, true, true, true, false, false]) rfl (by kernel_rfl) rfl fun K_90 hK91 => ?_
          refine st_lit (m := 1) (cs := [.slice Ar30_0 (e27.2.length) cr30_0, .slice Ar31_0 (e27.1.length) cr31_0]) (e := 105) HE89 HH84 (run_lit ts_34 HE89 (vs := [.agg #[.slice Ar30_0 (e27.2.length) cr30_0, .slice Ar31_0 (e27.1.length) cr31_0]]) rfl rfl (by simp [Value.cells]) rfl (by decide)) (wt0 rfl) rfl rfl fun q32 a_92 w' HE93 HH94 => hK91 _ _ (by exact HH94.sel [3] (by decide) rfl) ?_
          have HS95 := HH94.sel [3] (by decide) rfl
          refine dr_one (i := 9) (ls' := #[true, true, true, true, true, true, true, true, true, true, false]) rfl (by kernel_rfl) rfl fun K_96 hK97 => ?_
          have HH98 := HH94.sel [2, 1, 0, 3, 4] (by decide) rfl
          have HH99 := HH98.sel [1, 0, 2, 3, 4] (by decide) rfl
          have HH100 := HH99.sel [1, 0, 2, 3, 4] (by decide) rfl
          have HH101 := HH100.pair
          obtain ⟨S36, HH102⟩ : ∃ S, Held Nob w (rO eRewrite S [.slice Ar30_0 (e27.2.length) cr30_0, .slice Ar31_0 (e27.1.length) cr31_0] (e27.2, e27.1) :: _) _ := ⟨_, HH101⟩
          refine st_app1 HE93 HH102 ts_34 [3, 0, 1, 2] (by decide) rfl rfl rfl (by simp [Value.oneCell']) (by unfold maxLen; first | omega | (simp; done) | (simp; omega)) (by first | omega | (simp; done) | (simp; omega)) (wt0 rfl) rfl fun A33 c34 S35 a_103 w' HE104 HH105 => hK97 _ _ (by exact HH105.sel [2] (by decide) rfl) ?_
          have HS106 := HH105.sel [2] (by decide) rfl
          refine dr_take (i := 10) (ls' := #[true, true, true, true, true, true, true, true, true, true, true]) HE104 HS106 rfl (by kernel_rfl) (by kernel_rfl) (by kernel_rfl) (fun _ _ _ h => h) rfl (wt0 rfl) (x_assign rfl) rfl rfl fun a_107 HE108 => ?_
          refine dr_done (by kernel_rfl) ?_
          clear HH51 a_58 HE59 a_66 HE67 a_68 HE69 a_70 HE71 a_72 HE73 HH64 a_74 HE75 HS65 K_76 hK77 HH78 a_79 HE80 HS81 a_85 HE86 K_82 hK83 a_88 HE89 HH84 HS87 K_90 hK91 HH94 HH98 HH99 HH100 HH101 a_92 HE93 HH102 HS95 a_103 HE104 hK97 K_96
          refine blk_n ?_
          refine nrm ?_
          refine rg ?_
          refine pl_x HE108 HH105 (wt0 rfl) (x_add rfl rfl (by exact ⟨by omega, by omega⟩)) rfl rfl fun a_109 HE110 => ?_
          refine pl_x HE110 HH105 (wt0 rfl) (x_move rfl) rfl rfl fun a_111 HE112 => ?_
          refine wpList_nil ?_
          clear a_107 HE108 a_109 HE110
          have E37 : (a0.take (k + 1)).map revRw = ((a0.take k).map revRw ++ [(e27.2, e27.1)]) := by
            rw [List.take_succ_eq_append_getElem (by omega), List.map_append, ← xe27]; rfl
          exact nrm ⟨a0.length - (k + 1), (by omega), k + 1, A33, c34, S35, rfl, HE112.sub ⟨(by rw [E37]; rfl), (lkI rfl (by first | rfl | omega | (simp [hc22, p25_0, p25_1, hc26, xe27, hc29]; done))), rfl, rfl, trivial⟩, ((HH105.sel [0] (by decide) rfl).to (by first | rfl | (rw [E37]; done) | (rw [E37]; rfl) | (simp only [E37]; done) | (simp only [E37]; rfl))), (by first | omega | assumption | (simp; done) | simp_all), (by exact any_step (by omega) p25_1 (by rw [← xe27]; unfold emptyTo; simp; intro h; simp [h] at *))⟩
      · refine wp_exit ?_
        refine (thn_exit (thn_exit (blk_hit ?_)))
        refine nrm ?_
        refine wp_seq ?_
        refine rg ?_
        refine pl_x HE39 HH37 (wt0 rfl) (x_move rfl) rfl rfl fun a_113 HE114 => ?_
        refine pl_x HE114 HH37 (wt0 rfl) (x_assign rfl) rfl rfl fun a_115 HE116 => ?_
        refine pl_x HE116 HH37 (wt0 rfl) (x_assign rfl) rfl rfl fun a_117 HE118 => ?_
        refine wpList_nil ?_
        clear a_38 HE39 a_113 HE114 a_115 HE116
        refine nrm ?_
        refine wp_ret ?_
        refine ret2 HE118 rfl (rv_tmp rfl) (rv_tmp rfl) ?_
        have HH119 := HH37.vecSo
        have hF : (reverseRw a0) = ((a0.take k).map revRw, 0) := by
          first | (unfold reverseRw; simp [hc22, p25_0, p25_1, hc26]; done) | (unfold reverseRw; rw [if_pos ‹_›, if_pos (any_hit (by omega : k < a0.length) (by rw [← xe0]; exact decide_eq_true (by omega)))]) | (unfold reverseRw; have h1 := p25_1; rw [List.take_of_length_le (by omega)] at h1; rw [if_pos ‹_›, h1, List.take_of_length_le (by omega)]; rfl)
        exact ⟨A_4, c_4, by rw [hF] <;> rfl, by rw [hF]; exact (HH119.so (i := 0) rfl), HH119.below⟩

set_option maxRecDepth 100000 in
set_option maxHeartbeats 4000000 in
theorem spec_ReverseRewrites (A0 : Option Addr) (c0 : Nat) (a0 : (List tRewrite)) (w : World) (h0 : Sl eRewrite w (Old w) A0 c0 a0) :
    Calls Try.prog 37 #[.slice A0 a0.length c0] w fun e w' => ∃ (A0' : Option Addr) (c0' : Nat), e = .returned (.tuple #[.slice A0' (reverseRw a0).1.length c0', .int .i64 (reverseRw a0).2]) ∧ So eRewrite w' (Fr w w') A0' c0' (reverseRw a0).1 ∧ Below w.heap.size w w' := by
  have l0 := h0.len
  have HH1 := Held.start Nob w
  refine enter (n := 40) Try.func37 rfl rfl rfl fun a_2 HE3 => ?_
  refine wp_seq ?_
  refine rg ?_
  refine pl_x HE3 HH1 (wt0 rfl) (x_assign rfl) rfl rfl fun a_4 HE5 => ?_
  refine pl_x HE5 HH1 (wt0 rfl) (x_assign rfl) rfl rfl fun a_6 HE7 => ?_
  refine wpList_nil ?_
  clear a_2 HE3 a_4 HE5
  refine nrm ?_
  refine wp_seq ?_
  refine wp_seq ?_
  refine rg ?_
  refine pl_x HE7 HH1 (wt0 rfl) (x_move rfl) rfl rfl fun a_8 HE9 => ?_
  refine pl fun K_10 hK11 => ?_
  refine st_call HE9 (wt0 rfl) rfl rfl rfl en_75 rfl rfl (spec_l10Is _ _ a0 _ (HH1.old h0)) fun e w' hr => ?_
  obtain ⟨rfl, rfl⟩ := hr
  refine ⟨_, rfl, fun a_12 HE13 => hK11 _ _ ?_⟩
  refine pl_x HE13 HH1 (wt0 rfl) (x_not rfl) rfl rfl fun a_14 HE15 => ?_
  refine wpList_nil ?_
  clear a_6 HE7 a_8 HE9 a_12 HE13 hK11 K_10
  refine nrm ?_
  refine cnd_nb HE15 rfl (fun hc22 => ?_) (fun hc22 => ?_)
  · refine wp_seq ?_
    refine rg ?_
    refine pl_x HE15 HH1 (wt0 rfl) (x_assign rfl) rfl rfl fun a_16 HE17 => ?_
    refine pl_x HE17 HH1 (wt0 rfl) (x_assign rfl) rfl rfl fun a_18 HE19 => ?_
    refine wpList_nil ?_
    clear a_14 HE15 a_16 HE17
    refine nrm ?_
    refine wp_ret ?_
    refine (thn_ret ?_)
    refine ret2 HE19 rfl (rv_tmp rfl) (rv_tmp rfl) ?_
    have hF : (reverseRw a0) = ([], 1) := by
      first | (unfold reverseRw; simp [hc22]; done) | (unfold reverseRw; rw [if_pos ‹_›, if_pos (any_hit (by omega : k < a0.length) (by rw [← xe0]; exact decide_eq_true (by omega)))]) | (unfold reverseRw; have h1 := p0_1; rw [List.take_of_length_le (by omega)] at h1; rw [if_pos ‹_›, h1, List.take_of_length_le (by omega)]; rfl)
    exact ⟨none, 0, by rw [hF] <;> rfl, by rw [hF]; exact (So.nil (Nat.zero_le _)), HH1.below⟩
  · refine wp_skip ?_
    refine nrm ?_
    refine wp_seq ?_
    refine rg ?_
    refine pl fun K_20 hK21 => ?_
    refine st_lit (m := 0) (cs := []) (e := 105) HE15 HH1 (run_lit ts_34 HE15 (vs := []) rfl rfl (by simp [Value.cells]) rfl (by decide)) (wt0 rfl) rfl rfl fun q23 a_22 w' HE23 HH24 => hK21 _ _ ?_
    refine pl_x HE23 HH24 (wt0 rfl) (x_assign rfl) rfl rfl fun a_25 HE26 => ?_
    refine wpList_nil ?_
    clear a_14 HE15 HH1 a_22 HE23 hK21 K_20
    refine nrm ?_
    refine wp_seq ?_
    refine wp_seq ?_
    refine rg ?_
    refine pl_x HE26 HH24 (wt0 rfl) (x_assign rfl) rfl rfl fun a_27 HE28 => ?_
    refine wpList_nil ?_
    clear a_25 HE26
    refine nrm ?_
    refine wp_block ?_
    have HH29 := Held.vecFlat (E := eRewrite) (xs := []) (css := []) HH24 rfl (Nat.zero_le _) (fun i x hx => by simp at hx)
    refine lp (fun m a w' => ∃ (k : Nat) (A_4 : Option Addr) (c_4 : Nat) (S_4 : Nat → Prop), m = a0.length - k ∧ Env 40 [(4, .slice A_4 (List.length ((a0.take k).map revRw)) c_4), (5, .int .i64 (k : Int)), (0, .slice A0 (a0.length) c0)] a ∧ Held Nob w [rVec eRewrite 105 S_4 A_4 c_4 ((a0.take k).map revRw)] w' ∧ (k ≤ a0.length) ∧ ((a0.take k).any emptyTo = false)) (a0.length - (0)) ?_ ?_
    · have E24 : (a0.take 0).map revRw = ([] : List tRewrite) := by
        first | rfl | simp
      exact ⟨0, (some ⟨q23, 0, none⟩), (List.length (α := tRewrite) []), (fun b => b = q23), rfl, HE28.sub ⟨(by rw [E24]; rfl), (lkI rfl (by first | rfl | omega | (simp [hc22]; done))), rfl, trivial⟩, ((HH29.sel [0] (by decide) rfl).to (by first | rfl | (rw [E24]; done) | (rw [E24]; rfl) | (simp only [E24]; done) | (simp only [E24]; rfl))), (by first | omega | assumption | (simp; done) | simp_all), (by rfl)⟩
    · rintro m a_30 w' ⟨k, A_4, c_4, S_4, rfl, HE31, HH32, p25_0, p25_1⟩
      have ol : ((a0.take k).map revRw).length ≤ 60 := by have := validRew_60 (list := a0) ‹_›; simp; omega
      refine wp_seq ?_
      refine wp_seq ?_
      refine rg ?_
      refine pl_x HE31 HH32 (wt0 rfl) (x_move rfl) rfl rfl fun a_33 HE34 => ?_
      refine pl_x HE34 HH32 (wt0 rfl) (x_move rfl) rfl rfl fun a_35 HE36 => ?_
      refine pl_x HE36 HH32 (wt0 rfl) (x_len Try.underlying34 rfl) rfl rfl fun a_37 HE38 => ?_
      refine pl_x HE38 HH32 (wt0 rfl) (x_lss rfl rfl) rfl rfl fun a_39 HE40 => ?_
      refine wpList_nil ?_
      clear HH24 a_27 HE28 HH29 a_30 HE31 a_33 HE34 a_35 HE36 a_37 HE38
      refine nrm ?_
      refine cnd_d HE40 rfl (fun hc26 => ?_) (fun hc26 => ?_)
      · refine wp_skip ?_
        refine nrm ?_
        refine wp_seq ?_
        refine wp_block ?_
        refine wp_seq ?_
        refine wp_seq ?_
        refine rg ?_
        refine pl_x HE40 HH32 (wt0 rfl) (x_move rfl) rfl rfl fun a_41 HE42 => ?_
        refine pl_x HE42 HH32 (wt0 rfl) (x_move rfl) rfl rfl fun a_43 HE44 => ?_
        have ke27 : k < a0.length := by omega
        obtain ⟨be27, fe27, ese27, Ae27, Re27, De27⟩ := el_old h0 ke27
        obtain ⟨e27, xe27⟩ : ∃ x, x = a0[k] := ⟨_, rfl⟩
        rw [← xe27] at Re27
        have Qe27 := Re27
        obtain ⟨Ae27_0, ce27_0, Ae27_1, ce27_1, rfl, ge27_0, ge27_1⟩ := shape_Rewrite Re27
        have le27_0 := ge27_0.len
        have le27_1 := ge27_1.len
        have se27 := validRew_len2 ‹_› e27 (by rw [xe27]; exact List.getElem_mem _)
        refine pl_x HE44 HH32 (wt0 rfl) (x_indexAddr ts_34 rfl rfl Ae27 rfl ke27) rfl rfl fun a_45 HE46 => ?_
        refine pl_x HE46 HH32 (wt0 rfl) (x_fieldAddr fa_105_1 rfl) rfl rfl fun a_47 HE48 => ?_
        refine pl_x HE48 HH32 (wt0 rfl) (x_load1 tv_31 rfl (c_old (De27 1 _ rfl))) rfl rfl fun a_49 HE50 => ?_
        refine pl_x HE50 HH32 (wt0 rfl) (x_len Try.underlying31 rfl) rfl rfl fun a_51 HE52 => ?_
        refine pl_x HE52 HH32 (wt0 rfl) (x_eql rfl rfl) rfl rfl fun a_53 HE54 => ?_
        refine wpList_nil ?_
        clear a_39 HE40 a_41 HE42 a_43 HE44 a_45 HE46 a_47 HE48 a_49 HE50 a_51 HE52
        refine nrm ?_
        refine cnd_e HE54 rfl (fun hc28 => ?_) (fun hc28 => ?_)
        · refine wp_seq ?_
          refine rg ?_
          refine pl_x HE54 HH32 (wt0 rfl) (x_assign rfl) rfl rfl fun a_55 HE56 => ?_
          refine pl_x HE56 HH32 (wt0 rfl) (x_assign rfl) rfl rfl fun a_57 HE58 => ?_
          refine wpList_nil ?_
          clear a_53 HE54 a_55 HE56
          refine nrm ?_
          refine wp_ret ?_
          refine (thn_ret (blk_ret (thn_ret (thn_ret (blk_ret (thn_ret ?_))))))
          refine ret2 HE58 rfl (rv_tmp rfl) (rv_tmp rfl) ?_
          have hF : (reverseRw a0) = ([], 6) := by
            first | (unfold reverseRw; simp [hc22, p25_0, p25_1, hc26, xe27, hc28]; done) | (unfold reverseRw; rw [if_pos ‹_›, if_pos (any_hit (by omega : k < a0.length) (by rw [← xe27]; exact decide_eq_true (by omega)))]) | (unfold reverseRw; have h1 := p25_1; rw [List.take_of_length_le (by omega)] at h1; rw [if_pos ‹_›, h1, List.take_of_length_le (by omega)]; rfl)
          exact ⟨none, 0, by rw [hF] <;> rfl, by rw [hF]; exact (So.nil (Nat.zero_le _)), HH32.below⟩
        · refine wp_skip ?_
          refine nrm ?_
          refine dr_start (Held Nob w []) 17 #[false, false, false, false, false, false, false, false, false, false, false, false, false, false, false, false, false] hmix rfl rfl HH32 (fun _ h => h.sel [] (by decide) rfl) fun w' HH59 => ?_
          have HS60 := HH59.sel [] (by decide) rfl
          refine dr_take (i := 0) (ls' := #[true, false, false, false, false, false, false, false, false, false, false, false, false, false, false, false, false]) HE54 HS60 rfl (by kernel_rfl) (by kernel_rfl) (by kernel_rfl) (fun _ _ _ h => h) rfl (wt0 rfl) (x_move rfl) rfl rfl fun a_61 HE62 => ?_
          refine dr_take (i := 1) (ls' := #[true, true, false, false, false, false, false, false, false, false, false, false, false, false, false, false, false]) HE62 HS60 rfl (by kernel_rfl) (by kernel_rfl) (by kernel_rfl) (fun _ _ _ h => h) rfl (wt0 rfl) (x_move rfl) rfl rfl fun a_63 HE64 => ?_
          refine dr_take (i := 2) (ls' := #[true, true, true, false, false, false, false, false, false, false, false, false, false, false, false, false, false]) HE64 HS60 rfl (by kernel_rfl) (by kernel_rfl) (by kernel_rfl) (fun _ _ _ h => h) rfl (wt0 rfl) (x_move rfl) rfl rfl fun a_65 HE66 => ?_
          refine dr_take (i := 3) (ls' := #[true, true, true, true, false, false, false, false, false, false, false, false, false, false, false, false, false]) HE66 HS60 rfl (by kernel_rfl) (by kernel_rfl) (by kernel_rfl) (fun _ _ _ h => h) rfl (wt0 rfl) (x_indexAddr ts_34 rfl rfl Ae27 rfl ke27) rfl rfl fun a_67 HE68 => ?_
          refine dr_take (i := 4) (ls' := #[true, true, true, true, true, false, false, false, false, false, false, false, false, false, false, false, false]) HE68 HS60 rfl (by kernel_rfl) (by kernel_rfl) (by kernel_rfl) (fun _ _ _ h => h) rfl (wt0 rfl) (x_fieldAddr fa_105_1 rfl) rfl rfl fun a_69 HE70 => ?_
          refine dr_take (i := 5) (ls' := #[true, true, true, true, true, true, false, false, false, false, false, false, false, false, false, false, false]) HE70 HS60 rfl (by kernel_rfl) (by kernel_rfl) (by kernel_rfl) (fun _ _ _ h => h) rfl (wt0 rfl) (x_load1 tv_31 rfl (c_old (De27 1 _ rfl))) rfl rfl fun a_71 HE72 => ?_
          refine dr_take (i := 7) (ls' := #[true, true, true, true, true, true, false, true, false, false, false, false, false, false, false, false, false]) HE72 HS60 rfl (by kernel_rfl) (by kernel_rfl) (by kernel_rfl) (fun _ _ _ h => h) rfl (wt0 rfl) (x_move rfl) rfl rfl fun a_73 HE74 => ?_
          refine dr_take (i := 8) (ls' := #[true, true, true, true, true, true, false, true, true, false, false, false, false, false, false, false, false]) HE74 HS60 rfl (by kernel_rfl) (by kernel_rfl) (by kernel_rfl) (fun _ _ _ h => h) rfl (wt0 rfl) (x_move rfl) rfl rfl fun a_75 HE76 => ?_
          refine dr_take (i := 9) (ls' := #[true, true, true, true, true, true, false, true, true, true, false, false, false, false, false, false, false]) HE76 HS60 rfl (by kernel_rfl) (by kernel_rfl) (by kernel_rfl) (fun _ _ _ h => h) rfl (wt0 rfl) (x_indexAddr ts_34 rfl rfl Ae27 rfl ke27) rfl rfl fun a_77 HE78 => ?_
          refine dr_take (i := 10) (ls' := #[true, true, true, true, true, true, false, true, true, true, true, false, false, false, false, false, false]) HE78 HS60 rfl (by kernel_rfl) (by kernel_rfl) (by kernel_rfl) (fun _ _ _ h => h) rfl (wt0 rfl) (x_fieldAddr fa_105_0 rfl) rfl rfl fun a_79 HE80 => ?_
          refine dr_take (i := 11) (ls' := #[true, true, true, true, true, true, false, true, true, true, true, true, false, false, false, false, false]) HE80 HS60 rfl (by kernel_rfl) (by kernel_rfl) (by kernel_rfl) (fun _ _ _ h => h) rfl (wt0 rfl) (x_load1 tv_31 rfl (c_old (De27 0 _ rfl))) rfl rfl fun a_81 HE82 => ?_
          refine dr_one (i := 6) (ls' := #[true, true, true, true, true, true, true, true, true, true, true, true, false, false, false, false, false]) rfl (by kernel_rfl) rfl fun K_83 hK84 => ?_
          refine st_call HE82 (wt0 rfl) rfl rfl rfl en_90 rfl rfl (spec_l00Own _ _ e27.2 _ (HH59.old ge27_1) (by omega)) fun e w' hr => ?_
          obtain ⟨Ar29_0, cr29_0, rfl, hor29_0, hbr29⟩ := hr
          obtain ⟨Sr29, HH85⟩ := HH59.newS hbr29 hor29_0
          refine ⟨_, rfl, fun a_86 HE87 => hK84 _ _ (by exact HH85.sel [] (by decide) rfl) ?_⟩
          have HS88 := HH85.sel [] (by decide) rfl
          refine dr_one (i := 12) (ls' := #[true, true, true, true, true, true, true, true, true, true, true, true, true, false, false, false, false]) rfl (by kernel_rfl) rfl fun K_89 hK90 => ?_
          refine st_call HE87 (wt0 rfl) rfl rfl rfl en_90 rfl rfl (spec_l00Own _ _ e27.1 _ (HH85.old ge27_0) (by omega)) fun e w' hr => ?_
          obtain ⟨Ar30_0, cr30_0, rfl, hor30_0, hbr30⟩ := hr
          obtain ⟨Sr30, HH91⟩ := HH85.newS hbr30 hor30_0
          refine ⟨_, rfl, fun a_92 HE93 => hK90 _ _ (by exact HH91.sel [] (by decide) rfl) ?_⟩
          have HS94 := HH91.sel [] (by decide) rfl
          refine dr_take (i := 13) (ls' := #[true, true, true, true, true, true, true, true, true, true, true, true, true, true, false, false, false]) HE93 HS94 rfl (by kernel_rfl) (by kernel_rfl) (by kernel_rfl) (fun _ _ _ h => h) rfl (wt0 rfl) (show XS _ _ _ _ (.agg #[.slice Ar29_0 (e27.2.length) cr29_0, .slice Ar30_0 (e27.1.length) cr30_0]) from x_build (vs := [(0, .slice Ar29_0 (e27.2.length) cr29_0), (1, .slice Ar30_0 (e27.1.length) cr30_0)]) tb_105 rfl (by simp [Value.oneCell'])) rfl rfl fun a_95 HE96 => ?_
          refine dr_one (i := 14) (ls' := #[true, true, true, true, true, true, true, true, true, true, true, true, true, true, true, false, false]) rfl (by kernel_rfl) rfl fun K_97 hK98 => ?_
          refine st_lit (m := 1) (cs := [.slice Ar29_0 (e27.2.length) cr29_0, .slice Ar30_0 (e27.1.length) cr30_0]) (e := 105) HE96 HH91 (run_lit ts_34 HE96 (vs := [.agg #[.slice Ar29_0 (e27.2.length) cr29_0, .slice Ar30_0 (e27.1.length) cr30_0]]) rfl rfl (by simp [Value.cells]) rfl (by decide)) (wt0 rfl) rfl rfl fun q31 a_99 w' HE100 HH101 => hK98 _ _ (by exact HH101.sel [] (by decide) rfl) ?_
          have HS102 := HH101.sel [] (by decide) rfl
          refine dr_one (i := 15) (ls' := #[true, true, true, true, true, true, true, true, true, true, true, true, true, true, true, true, false]) rfl (by kernel_rfl) rfl fun K_103 hK104 => ?_
          have HH105 := HH101.sel [2, 1, 0, 3] (by decide) rfl
          have HH106 := HH105.sel [1, 0, 2, 3] (by decide) rfl
          have HH107 := HH106.sel [1, 0, 2, 3] (by decide) rfl
          have HH108 := HH107.pair
          obtain ⟨S35, HH109⟩ : ∃ S, Held Nob w (rO eRewrite S [.slice Ar29_0 (e27.2.length) cr29_0, .slice Ar30_0 (e27.1.length) cr30_0] (e27.2, e27.1) :: _) _ := ⟨_, HH108⟩
          refine st_app1 HE100 HH109 ts_34 [2, 0, 1] (by decide) rfl rfl rfl (by simp [Value.oneCell']) (by unfold maxLen; first | omega | (simp; done) | (simp; omega)) (by first | omega | (simp; done) | (simp; omega)) (wt0 rfl) rfl fun A32 c33 S34 a_110 w' HE111 HH112 => hK104 _ _ (by exact HH112.sel [] (by decide) rfl) ?_
          have HS113 := HH112.sel [] (by decide) rfl
          refine dr_take (i := 16) (ls' := #[true, true, true, true, true, true, true, true, true, true, true, true, true, true, true, true, true]) HE111 HS113 rfl (by kernel_rfl) (by kernel_rfl) (by kernel_rfl) (fun _ _ _ h => h) rfl (wt0 rfl) (x_assign rfl) rfl rfl fun a_114 HE115 => ?_
          refine dr_done (by kernel_rfl) ?_
          clear HH32 a_53 HE54 a_61 HE62 a_63 HE64 a_65 HE66 a_67 HE68 a_69 HE70 a_71 HE72 a_73 HE74 a_75 HE76 a_77 HE78 a_79 HE80 HH59 a_81 HE82 HS60 K_83 hK84 HH85 a_86 HE87 HS88 a_92 HE93 K_89 hK90 a_95 HE96 HH91 HS94 K_97 hK98 HH101 HH105 HH106 HH107 HH108 a_99 HE100 HH109 HS102 a_110 HE111 hK104 K_103
          refine blk_n ?_
          refine nrm ?_
          refine rg ?_
          refine pl_x HE115 HH112 (wt0 rfl) (x_move rfl) rfl rfl fun a_116 HE117 => ?_
          refine pl_x HE117 HH112 (wt0 rfl) (x_add rfl rfl (by exact ⟨by omega, by omega⟩)) rfl rfl fun a_118 HE119 => ?_
          refine pl_x HE119 HH112 (wt0 rfl) (x_assign rfl) rfl rfl fun a_120 HE121 => ?_
          refine wpList_nil ?_
          clear a_114 HE115 a_116 HE117 a_118 HE119
          have E36 : (a0.take (k + 1)).map revRw = ((a0.take k).map revRw ++ [(e27.2, e27.1)]) := by
            rw [List.take_succ_eq_append_getElem (by omega), List.map_append, ← xe27]; rfl
          exact nrm ⟨a0.length - (k + 1), (by omega), k + 1, A32, c33, S34, rfl, HE121.sub ⟨(by rw [E36]; rfl), (lkI rfl (by first | rfl | omega | (simp [hc22, p25_0, p25_1, hc26, xe27, hc28]; done))), rfl, trivial⟩, ((HH112.sel [0] (by decide) rfl).to (by first | rfl | (rw [E36]; done) | (rw [E36]; rfl) | (simp only [E36]; done) | (simp only [E36]; rfl))), (by first | omega | assumption | (simp; done) | simp_all), (by exact any_step (by omega) p25_1 (by rw [← xe27]; unfold emptyTo; simp; intro h; simp [h] at *))⟩
      · refine wp_exit ?_
        refine (thn_exit (thn_exit (blk_hit ?_)))
        refine nrm ?_
        refine wp_seq ?_
        refine rg ?_
        refine pl_x HE40 HH32 (wt0 rfl) (x_move rfl) rfl rfl fun a_122 HE123 => ?_
        refine pl_x HE123 HH32 (wt0 rfl) (x_assign rfl) rfl rfl fun a_124 HE125 => ?_
        refine pl_x HE125 HH32 (wt0 rfl) (x_assign rfl) rfl rfl fun a_126 HE127 => ?_
        refine wpList_nil ?_
        clear a_39 HE40 a_122 HE123 a_124 HE125
        refine nrm ?_
        refine wp_ret ?_
        refine ret2 HE127 rfl (rv_tmp rfl) (rv_tmp rfl) ?_
        have HH128 := HH32.vecSo
        have hF : (reverseRw a0) = ((a0.take k).map revRw, 0) := by
          first | (unfold reverseRw; simp [hc22, p25_0, p25_1, hc26]; done) | (unfold reverseRw; rw [if_pos ‹_›, if_pos (any_hit (by omega : k < a0.length) (by rw [← xe0]; exact decide_eq_true (by omega)))]) | (unfold reverseRw; have h1 := p25_1; rw [List.take_of_length_le (by omega)] at h1; rw [if_pos ‹_›, h1, List.take_of_length_le (by omega)]; rfl)
        exact ⟨A_4, c_4, by rw [hF] <;> rfl, by rw [hF]; exact (HH128.so (i := 0) rfl), HH128.below⟩

theorem reverseRw_ct (l : List tRewrite) : (ct_SRewrite (reverseRw l).1 : Int) ≤ 1000000000 := by
  have key : ∀ xs : List tRewrite, xs.length ≤ 60 → (∀ r ∈ xs, r.1.length ≤ 400 ∧ r.2.length ≤ 400) → (ct_SRewrite xs : Int) ≤ 1000000000 := by
    intro xs h1 h2
    have h3 : ct_SRewrite xs ≤ 800 * xs.length := cntL_bound fun x hx => by
      have a1 := ct_L_len x.1
      have a2 := ct_L_len x.2
      have a3 := h2 x hx
      unfold ct_Rewrite; omega
    omega
  unfold reverseRw
  split
  · rename_i hv
    split
    · exact key [] (by simp) (by simp)
    · refine key _ (by have := validRew_60 hv; simpa using this) ?_
      intro r hr
      obtain ⟨x, hx, rfl⟩ := List.mem_map.1 hr
      have := validRew_len2 hv x hx
      exact ⟨this.2, this.1⟩
  · exact key [] (by simp) (by simp)

end Go.Proofs.Ytfcajgbehecfbaa
