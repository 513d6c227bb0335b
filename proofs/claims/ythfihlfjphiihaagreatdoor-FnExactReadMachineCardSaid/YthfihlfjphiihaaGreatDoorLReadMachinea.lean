/- What the proof of FnExactReadMachine needs: contracts of the functions that it reaches, each once. -/
import Derived.Test.YthfihlfjphiihaaGreatDoorProg
import Derived.Test.YthfihlfjphiihaaGreatDoorQMem
import Derived.Test.YthfihlfjphiihaaGreatDoorQOpen
import Derived.WalkKit
import Derived.WalkSpells
import Derived.Below
import Derived.LoopTactic
import Derived.Outline
import Derived.Deep.QuietTactic
import Derived.BigQuiet
import Derived.Deep.LoopGhost
import Derived.Handy
import Derived.Lib.Hide
import Derived.Shelf.Abstract
import Derived.StillTailTactics
import Derived.OwnWalk
import Derived.Maps.AppendAt
import Derived.RegionTactic
import Derived.Deep.RegionHeld3
import Derived.IntWalk
import Derived.Deep.Upon
import Derived.Laws.OwnMore
import Derived.Maps.AppendAt
import Derived.Laws.Small
import Derived.Laws.BytesString
import Derived.Laws.Strings
import Derived.Lib.Bytes
import Derived.Lib.Strings
import Derived.Lib.FrozenHead
import Derived.Lib.RuneBytes
import Derived.Lib.LaidTab
import Derived.Laws.StructEq
import Derived.Lib.MapLaws
import Derived.Lib.OthersKept
import Derived.Laws.RangeAny
import Derived.Scope
import Derived.RangeFuncNested
import Derived.RangeFuncBound
import Derived.RangeFuncCalls
import Derived.RangeFuncLeaves
import Derived.OwnWalkIn
import Derived.TacticsInMore
import Derived.Lib.ItoaLen
import Derived.Lib.Join
import Derived.Shelf.Strconv.Itoa4
import Derived.Shelf.Strings.OnBuilder
import Derived.Shelf.Strings.BuilderK
import Derived.Shelf.Strings.BuilderRune
import Derived.Shelf.LaysM
import Derived.Ground.NamesProg
import Derived.Lib.ParseIntBTie
import Derived.Lib.SplitLaws
import Derived.Lib.Replace
import Derived.Shelf.LaysC
import Derived.Shelf.Strconv.ErrVarParseInt
import Derived.Shelf.Strconv.ParseIntPublic10
import Derived.Shelf.Strings.Prefix
import Derived.Shelf.Strings.Cut
import Derived.Shelf.Strings.Split
import Derived.Shelf.Strings.Replace
import Derived.Shelf.Small.Wraps
import Derived.Stop.IfaceNil
import Derived.Shelf.Small.Utf8
import Derived.Shelf.Strings.Runes
import Derived.Lib.IndexAny
import Derived.Shelf.Strings.IndexAnyAll
namespace Go.Proofs.YthfihlfjphiihaaGreatDoor
open Go.RowKit

def lk (t : Nat) : List (Nat × Value) → Option Value
  | [] => none
  | (i, v) :: L => bif Nat.beq t i then some v else lk t L

/-- The slots L are known. -/
structure Env (n : Nat) (L : List (Nat × Value)) (a : Act) : Prop where
  defers : a.defers = []
  size : a.tmps.size = n
  get : ∀ t v, lk t L = some v → a.tmps.getD t undef = v

def ev (L : List (Nat × Value)) : Operand → Option Value
  | .tmp t => lk t L
  | .const v => some v
  | .global g => some (.pointer (some ⟨g, 0, none⟩))
  | .func f => some (.func (.func f) #[] #[])

theorem Env.ev {n : Nat} {L : List (Nat × Value)} {a : Act} {x : Operand} {v : Value} (h : Env n L a) (hx : ev L x = some v) : a.eval x = v := by
  cases x with
  | tmp t => exact h.get t v hx
  | const u => simpa [Go.Proofs.YthfihlfjphiihaaGreatDoor.ev, Act.eval] using hx
  | global g => simpa [Go.Proofs.YthfihlfjphiihaaGreatDoor.ev, Act.eval] using hx
  | func f => simpa [Go.Proofs.YthfihlfjphiihaaGreatDoor.ev, Act.eval] using hx

theorem Env.put {n : Nat} {L : List (Nat × Value)} {a : Act} {d : Nat} (h : Env n L a) (hd : Nat.blt d n = true) (v : Value) : Env n ((d, v) :: L) (a.put (some d) v) where
  defers := h.defers
  size := by simpa [Act.put] using h.size
  get := by
    intro t u hu
    have hlt : d < a.tmps.size := by rw [h.size]; exact Nat.blt_eq ▸ hd
    simp only [lk] at hu
    by_cases e : t = d
    · subst e
      simp at hu
      subst hu
      simp [Act.put, Array.getElem?_setIfInBounds_self_of_lt hlt]
    · have e' : Nat.beq t d = false := Bool.eq_false_iff.2 fun h => e (Nat.eq_of_beq_eq_true h)
      rw [e'] at hu
      have := h.get t u hu
      simpa [Act.put, Array.getElem?_setIfInBounds_ne (fun h => e h.symm)] using this

def subE (L : List (Nat × Value)) : List (Nat × Value) → Prop
  | [] => True
  | p :: K => lk p.1 L = some p.2 ∧ subE L K

theorem Env.sub {n : Nat} {L K : List (Nat × Value)} {a : Act} (h : Env n L a) (hs : subE L K) : Env n K a where
  defers := h.defers
  size := h.size
  get := by
    intro t v hv
    refine h.get t v ?_
    clear h
    induction K with
    | nil => cases hv
    | cons p K ih =>
      obtain ⟨i, u⟩ := p
      simp only [lk] at hv
      by_cases e : Nat.beq t i = true
      · rw [e] at hv
        have e' := Nat.eq_of_beq_eq_true e
        simp at hv
        rw [e', hs.1, hv]
      · have e' : Nat.beq t i = false := Bool.eq_false_iff.2 e
        rw [e'] at hv
        exact ih hs.2 hv

theorem Env.sub' {n : Nat} {L K : List (Nat × Value)} {a : Act} (h : Env n L a) (hs : ∀ t v, lk t K = some v → lk t L = some v) : Env n K a := ⟨h.defers, h.size, fun t v hv => h.get t v (hs t v hv)⟩

theorem Env.start {n : Nat} {vs : List Value} {L : List (Nat × Value)} (hL : ∀ t v, lk t L = some v → vs[t]? = some v) (hn : vs.length ≤ n) : Env n L { tmps := vs.toArray ++ Array.replicate (n - vs.toArray.size) undef, defers := [] } where
  defers := rfl
  size := by simp; omega
  get := by
    intro t v hv
    have h1 := hL t v hv
    have h2 := (List.getElem?_eq_some_iff.1 h1).1
    simp only [Array.getD_eq_getD_getElem?, Array.getElem?_append, List.size_toArray, h2, if_true, List.getElem?_toArray, h1, Option.getD_some]

/-- A part of the memory that is held: its blocks, and what is known of them. -/
structure Res where
  S : Nat → Prop
  φ : World → Prop
  loc : ∀ w w' : World, (∀ b, S b → w'.heap[b]? = w.heap[b]?) → φ w → φ w'

/-- Since w0 nothing has changed but blocks of M; the parts rs are held, apart from one another, in M or in new blocks. -/
structure Held (M : Nat → Prop) (w0 : World) (rs : List Res) (w : World) : Prop where
  chg : Chg M w0 w
  ok : ∀ r ∈ rs, r.φ w
  rng : ∀ r ∈ rs, ∀ b, r.S b → (M b ∨ w0.heap.size ≤ b) ∧ b < w.heap.size
  sep : rs.Pairwise fun r s => ∀ b, r.S b → ¬ s.S b

/-- No block. -/
def Nob : Nat → Prop := fun _ => False

def rBlk (g : Nat) (t : TypeId) (cs : List Value) : Res := ⟨fun b => b = g, fun w => Blk w g t cs.toArray, fun _ _ h hb => (h g rfl).trans hb⟩

def rO {α : Type} (E : Enc α) (S : Nat → Prop) (cs : List Value) (x : α) : Res := ⟨S, fun w => E.O w S cs x, fun _ _ h ho => E.okeep ho h⟩

/-- An owned slice. -/
abbrev rSo {α : Type} (E : Enc α) (S : Nat → Prop) (A : Option Addr) (c : Nat) (xs : List α) : Res := rO (eSl E) S [.slice A xs.length c] xs

theorem Held.start (M : Nat → Prop) (w : World) : Held M w [] w := ⟨Chg.refl _ _, (fun _ h => by cases h), (fun _ h => by cases h), List.Pairwise.nil⟩

theorem Held.below {w0 : World} {rs : List Res} {w : World} (h : Held Nob w0 rs w) : Below w0.heap.size w0 w := h.chg.below (Nat.le_refl _) fun _ h => h.elim

theorem Held.size {M : Nat → Prop} {w0 : World} {rs : List Res} {w : World} (h : Held M w0 rs w) : w0.heap.size ≤ w.heap.size := h.chg.size

theorem Held.get {M : Nat → Prop} {w0 : World} {rs : List Res} {w : World} (h : Held M w0 rs w) {i : Nat} {r : Res} (hi : rs[i]? = some r) : r.φ w := h.ok r (List.mem_of_getElem? hi)

theorem Held.drew {M : Nat → Prop} {w0 : World} {rs : List Res} {w : World} (h : Held M w0 rs w) : Held M w0 rs w.drew := ⟨h.chg.drew, fun r hr => r.loc w _ (fun _ _ => rfl) (h.ok r hr), h.rng, h.sep⟩

theorem Held.on {M : Nat → Prop} {w0 : World} {rs : List Res} {w w' : World} (h : Held M w0 rs w) (hb : Below w.heap.size w w') : Held M w0 rs w' where
  chg := h.chg.trans (.of_below hb)
  ok := fun r hr => r.loc _ _ (fun b hS => hb.block b (h.rng r hr b hS).2) (h.ok r hr)
  rng := fun r hr b hS => ⟨(h.rng r hr b hS).1, Nat.lt_of_lt_of_le (h.rng r hr b hS).2 hb.size⟩
  sep := h.sep

/-- A call has made r. -/
theorem Held.new {M : Nat → Prop} {w0 : World} {rs : List Res} {w w' : World} (h : Held M w0 rs w) (hb : Below w.heap.size w w') (r : Res) (hr : r.φ w') (hS : ∀ b, r.S b → w.heap.size ≤ b ∧ b < w'.heap.size) : Held M w0 (r :: rs) w' where
  chg := (h.on hb).chg
  ok := by
    intro s hs
    rcases List.mem_cons.1 hs with rfl | hs
    · exact hr
    · exact (h.on hb).ok s hs
  rng := by
    intro s hs
    rcases List.mem_cons.1 hs with rfl | hs
    · exact fun b hb' => ⟨.inr (Nat.le_trans h.size (hS b hb').1), (hS b hb').2⟩
    · exact (h.on hb).rng s hs
  sep := List.pairwise_cons.2 ⟨fun s hs b hb1 hb2 => by have h1 := (hS b hb1).1; have h2 := (h.rng s hs b hb2).2; omega, h.sep⟩

theorem Held.newO {M : Nat → Prop} {w0 : World} {rs : List Res} {w w' : World} {α : Type} {E : Enc α} {cs : List Value} {x : α} (h : Held M w0 rs w) (hb : Below w.heap.size w w') (ho : E.O w' (Fr w w') cs x) : ∃ S, Held M w0 (rO E S cs x :: rs) w' :=
  ⟨Fr w w', h.new hb (rO E (Fr w w') cs x) ho fun _ h => h⟩

theorem Held.newS {M : Nat → Prop} {w0 : World} {rs : List Res} {w w' : World} {α : Type} {E : Enc α} {A : Option Addr} {c : Nat} {xs : List α} (h : Held M w0 rs w) (hb : Below w.heap.size w w') (ho : So E w' (Fr w w') A c xs) : ∃ S, Held M w0 (rSo E S A c xs :: rs) w' := h.newO hb (oSl ho)

theorem Held.alloc {M : Nat → Prop} {w0 : World} {rs : List Res} {w : World} (h : Held M w0 rs w) (t : TypeId) (cs : List Value) : Held M w0 (rBlk w.heap.size t cs :: rs) (w.alloc (.cells cs.toArray t)) :=
  h.new ((Below.refl _ _).alloc (Nat.le_refl _) _) (rBlk w.heap.size t cs) (Blk.new w t cs.toArray) fun b (hb : b = _) => by subst hb; simp

def pick (rs : List Res) : List Nat → Option (List Res)
  | [] => some []
  | i :: is => match rs[i]?, pick rs is with
    | some r, some q => some (r :: q)
    | _, _ => none

theorem pick_get {rs rs' : List Res} {is : List Nat} (h : pick rs is = some rs') : ∀ (k : Nat) (r : Res), rs'[k]? = some r → ∃ i, is[k]? = some i ∧ rs[i]? = some r := by
  induction is generalizing rs' with
  | nil => simp [pick] at h; subst h; intro k r hr; simp at hr
  | cons i is ih =>
    simp only [pick] at h
    cases hi : rs[i]? with
    | none => simp [hi] at h
    | some r0 =>
      cases hm : pick rs is with
      | none => simp [hi, hm] at h
      | some rs2 =>
        simp [hi, hm] at h
        subst h
        intro k r hr
        rcases k with _ | k
        · simp at hr; subst hr; exact ⟨i, rfl, hi⟩
        · simp at hr; exact ih hm k r hr

theorem sep_at {rs : List Res} (h : rs.Pairwise fun r s => ∀ b, r.S b → ¬ s.S b) {i j : Nat} {r s : Res} (hi : rs[i]? = some r) (hj : rs[j]? = some s) (hij : i ≠ j) : ∀ b, r.S b → ¬ s.S b := by
  obtain ⟨li, rfl⟩ := List.getElem?_eq_some_iff.1 hi
  obtain ⟨lj, rfl⟩ := List.getElem?_eq_some_iff.1 hj
  rw [List.pairwise_iff_getElem] at h
  rcases Nat.lt_or_gt_of_ne hij with hlt | hlt
  · exact h i j li lj hlt
  · exact fun b h1 h2 => h j i lj li hlt b h2 h1

/-- Some of the parts, in another order. -/
theorem Held.sel {M : Nat → Prop} {w0 : World} {rs : List Res} {w : World} (h : Held M w0 rs w) (is : List Nat) {rs' : List Res} (hn : is.Nodup) (hs : pick rs is = some rs') : Held M w0 rs' w where
  chg := h.chg
  ok := by
    intro r hr
    obtain ⟨k, hk⟩ := List.mem_iff_getElem?.1 hr
    obtain ⟨i, _, hi⟩ := pick_get hs k r hk
    exact h.get hi
  rng := by
    intro r hr
    obtain ⟨k, hk⟩ := List.mem_iff_getElem?.1 hr
    obtain ⟨i, _, hi⟩ := pick_get hs k r hk
    exact h.rng r (List.mem_of_getElem? hi)
  sep := by
    rw [List.pairwise_iff_getElem]
    intro k l lk ll hkl
    obtain ⟨i, h1, hi⟩ := pick_get hs k _ (List.getElem?_eq_getElem lk)
    obtain ⟨j, h2, hj⟩ := pick_get hs l _ (List.getElem?_eq_getElem ll)
    refine sep_at h.sep hi hj ?_
    rintro rfl
    obtain ⟨l1, e1⟩ := List.getElem?_eq_some_iff.1 h1
    obtain ⟨l2, e2⟩ := List.getElem?_eq_some_iff.1 h2
    have := List.pairwise_iff_getElem.1 hn k l l1 l2 hkl
    exact this (e1.trans e2.symm)

/-- What was there at the start, outside M, reads so still. -/
theorem Held.cell0 {M : Nat → Prop} {w0 : World} {rs : List Res} {w : World} (h : Held M w0 rs w) {p : Addr} (hp : p.block < w0.heap.size) (hM : ¬ M p.block) : w.cell? p = w0.cell? p := World.cell?_of_block (w := w0) (h.chg.block p.block hp hM)

theorem Held.old {w0 : World} {rs : List Res} {w : World} {α : Type} {E : Enc α} {A : Option Addr} {c : Nat} {xs : List α} (h : Held Nob w0 rs w) (hs : Sl E w0 (Old w0) A c xs) : Sl E w (Old w) A c xs := hs.on h.below

theorem Held.oldR {w0 : World} {rs : List Res} {w : World} {α : Type} {E : Enc α} {cs : List Value} {x : α} (h : Held Nob w0 rs w) (hs : E.R w0 (Old w0) cs x) : E.R w (Old w) cs x := E.on hs h.below

theorem Held.rd {M : Nat → Prop} {w0 : World} {rs : List Res} {w : World} {α : Type} {E : Enc α} {S : Nat → Prop} {cs : List Value} {x : α} (h : Held M w0 rs w) {i : Nat} (hi : rs[i]? = some (rO E S cs x)) : E.R w (Old w) cs x :=
  E.more (E.read (h.get hi)) fun b hb => (h.rng _ (List.mem_of_getElem? hi) b hb).2

theorem so_of_o {α : Type} {E : Enc α} {w : World} {S : Nat → Prop} {A : Option Addr} {c : Nat} {xs : List α} (h : (eSl E).O w S [.slice A xs.length c] xs) : So E w S A c xs := by
  obtain ⟨A', c', he, hs⟩ := h
  simp only [List.cons.injEq, Value.slice.injEq, and_true, true_and] at he
  obtain ⟨rfl, rfl⟩ := he
  exact hs

theorem sl_of_r {α : Type} {E : Enc α} {w : World} {S : Nat → Prop} {A : Option Addr} {c : Nat} {xs : List α} (h : (eSl E).R w S [.slice A xs.length c] xs) : Sl E w S A c xs := by
  obtain ⟨A', c', he, hs⟩ := h
  simp only [List.cons.injEq, Value.slice.injEq, and_true, true_and] at he
  obtain ⟨rfl, rfl⟩ := he
  exact hs

theorem Held.sl {M : Nat → Prop} {w0 : World} {rs : List Res} {w : World} {α : Type} {E : Enc α} {S : Nat → Prop} {A : Option Addr} {c : Nat} {xs : List α} (h : Held M w0 rs w) {i : Nat} (hi : rs[i]? = some (rSo E S A c xs)) : Sl E w (Old w) A c xs := sl_of_r (h.rd hi)

theorem Held.so {w0 : World} {rs : List Res} {w : World} {α : Type} {E : Enc α} {S : Nat → Prop} {A : Option Addr} {c : Nat} {xs : List α} (h : Held Nob w0 rs w) {i : Nat} (hi : rs[i]? = some (rSo E S A c xs)) : So E w (Fr w0 w) A c xs :=
  (so_of_o (h.get hi)).more fun b hb => by
    have h1 := h.rng _ (List.mem_of_getElem? hi) b hb
    exact ⟨h1.1.resolve_left fun h => h.elim, h1.2⟩

theorem Held.o {w0 : World} {rs : List Res} {w : World} {α : Type} {E : Enc α} {S : Nat → Prop} {cs : List Value} {x : α} (h : Held Nob w0 rs w) {i : Nat} (hi : rs[i]? = some (rO E S cs x)) : E.O w (Fr w0 w) cs x :=
  E.omore (h.get hi) fun b hb => by
    have h1 := h.rng _ (List.mem_of_getElem? hi) b hb
    exact ⟨h1.1.resolve_left fun h => h.elim, h1.2⟩

/-- Part i is rewritten: only its blocks have changed, and new ones have come. -/
theorem Held.mut {M : Nat → Prop} {w0 : World} {rs : List Res} {w w' : World} (h : Held M w0 rs w) {i : Nat} {r : Res} (hi : rs[i]? = some r) (hc : Chg r.S w w') (r' : Res) (hr : r'.φ w') (hS : ∀ b, r'.S b → r.S b ∨ (w.heap.size ≤ b ∧ b < w'.heap.size)) : Held M w0 (rs.set i r') w' where
  chg := by
    refine ⟨hc.os.trans h.chg.os, hc.tape.trans h.chg.tape, hc.output.trans h.chg.output, Nat.le_trans h.chg.size hc.size, fun k hk hM => ?_⟩
    refine (hc.block k (Nat.lt_of_lt_of_le hk h.chg.size) fun hS' => ?_).trans (h.chg.block k hk hM)
    rcases (h.rng r (List.mem_of_getElem? hi) k hS').1 with h1 | h1
    · exact hM h1
    · omega
  ok := by
    intro s hs
    obtain ⟨j, hj⟩ := List.mem_iff_getElem?.1 hs
    by_cases e : i = j
    · subst e
      rw [List.getElem?_set_self (List.getElem?_eq_some_iff.1 hi).1] at hj
      simp at hj; subst hj; exact hr
    · rw [List.getElem?_set_ne e] at hj
      refine s.loc _ _ (fun b hb => hc.block b (h.rng s (List.mem_of_getElem? hj) b hb).2 fun hb' => sep_at h.sep hi hj e b hb' hb) (h.get hj)
  rng := by
    intro s hs b hb
    obtain ⟨j, hj⟩ := List.mem_iff_getElem?.1 hs
    by_cases e : i = j
    · subst e
      rw [List.getElem?_set_self (List.getElem?_eq_some_iff.1 hi).1] at hj
      simp at hj; subst hj
      rcases hS b hb with h1 | h1
      · have h2 := h.rng r (List.mem_of_getElem? hi) b h1
        exact ⟨h2.1, Nat.lt_of_lt_of_le h2.2 hc.size⟩
      · exact ⟨.inr (Nat.le_trans h.size h1.1), h1.2⟩
    · rw [List.getElem?_set_ne e] at hj
      have h2 := h.rng s (List.mem_of_getElem? hj) b hb
      exact ⟨h2.1, Nat.lt_of_lt_of_le h2.2 hc.size⟩
  sep := by
    have key : ∀ (j : Nat) (s : Res), i ≠ j → rs[j]? = some s → ∀ b, r'.S b → ¬ s.S b := by
      intro j s e hj b hb hb'
      rcases hS b hb with h1 | h1
      · exact sep_at h.sep hi hj e b h1 hb'
      · have := (h.rng s (List.mem_of_getElem? hj) b hb').2; omega
    rw [List.pairwise_iff_getElem]
    intro k l lk ll hkl b hb hb'
    have lk' : k < rs.length := by simpa using lk
    have ll' : l < rs.length := by simpa using ll
    by_cases e1 : i = k
    · subst e1
      rw [List.getElem_set_self] at hb
      rw [List.getElem_set_ne (by omega)] at hb'
      exact key l _ (by omega) (List.getElem?_eq_getElem ll') b hb hb'
    · by_cases e2 : i = l
      · subst e2
        rw [List.getElem_set_self] at hb'
        rw [List.getElem_set_ne (by omega)] at hb
        exact key k _ e1 (List.getElem?_eq_getElem lk') b hb' hb
      · rw [List.getElem_set_ne e1] at hb
        rw [List.getElem_set_ne e2] at hb'
        exact List.pairwise_iff_getElem.1 h.sep k l lk' ll' hkl b hb hb'

theorem Held.set {M : Nat → Prop} {w0 : World} {rs : List Res} {w : World} (h : Held M w0 rs w) {i : Nat} {g : Nat} {t : TypeId} {cs : List Value} (hi : rs[i]? = some (rBlk g t cs)) (o : Nat) (v : Value) : Held M w0 (rs.set i (rBlk g t (cs.set o v))) (w.setCell ⟨g, o, none⟩ v) := by
  refine h.mut hi ((Chg.refl _ _).set (by exact rfl) _) (rBlk g t (cs.set o v)) ?_ fun b hb => .inl hb
  have := Blk.set (h.get hi) o v
  have e : cs.toArray.setIfInBounds o v = (cs.set o v).toArray := by simp
  rw [e] at this
  exact this

/-- Two parts become one. -/
theorem Held.join {M : Nat → Prop} {w0 : World} {r s : Res} {rs : List Res} {w : World} (h : Held M w0 (r :: s :: rs) w) (q : Res) (hq : r.φ w → s.φ w → (∀ b, r.S b → ¬ s.S b) → q.φ w) (hS : ∀ b, q.S b → r.S b ∨ s.S b) : Held M w0 (q :: rs) w where
  chg := h.chg
  ok := by
    intro x hx
    rcases List.mem_cons.1 hx with rfl | hx
    · exact hq (h.ok r (by simp)) (h.ok s (by simp)) ((List.pairwise_cons.1 h.sep).1 s (by simp))
    · exact h.ok x (by simp [hx])
  rng := by
    intro x hx b hb
    rcases List.mem_cons.1 hx with rfl | hx
    · rcases hS b hb with h1 | h1
      · exact h.rng r (by simp) b h1
      · exact h.rng s (by simp) b h1
    · exact h.rng x (by simp [hx]) b hb
  sep := by
    have h1 := List.pairwise_cons.1 h.sep
    have h2 := List.pairwise_cons.1 h1.2
    refine List.pairwise_cons.2 ⟨fun x hx b hb hb' => ?_, h2.2⟩
    rcases hS b hb with h3 | h3
    · exact h1.1 x (by simp [hx]) b h3 hb'
    · exact h2.1 x hx b h3 hb'

/-- One part turned into another over the same blocks. -/
theorem Held.turn {M : Nat → Prop} {w0 : World} {r : Res} {rs : List Res} {w : World} (h : Held M w0 (r :: rs) w) (q : Res) (hq : r.φ w → q.φ w) (hS : ∀ b, q.S b → r.S b) : Held M w0 (q :: rs) w where
  chg := h.chg
  ok := by
    intro x hx
    rcases List.mem_cons.1 hx with rfl | hx
    · exact hq (h.ok r (by simp))
    · exact h.ok x (by simp [hx])
  rng := by
    intro x hx b hb
    rcases List.mem_cons.1 hx with rfl | hx
    · exact h.rng r (by simp) b (hS b hb)
    · exact h.rng x (by simp [hx]) b hb
  sep := by
    have h1 := List.pairwise_cons.1 h.sep
    exact List.pairwise_cons.2 ⟨fun x hx b hb hb' => h1.1 x hx b (hS b hb) hb', h1.2⟩

theorem Held.pair {M : Nat → Prop} {w0 : World} {rs : List Res} {w : World} {α β : Type} {E : Enc α} {F : Enc β} {S1 S2 : Nat → Prop} {c1 c2 : List Value} {x : α} {y : β} (h : Held M w0 (rO E S1 c1 x :: rO F S2 c2 y :: rs) w) : Held M w0 (rO (ePr E F) (fun b => S1 b ∨ S2 b) (c1 ++ c2) (x, y) :: rs) w :=
  h.join _ (fun h1 h2 hd => ⟨c1, c2, S1, S2, rfl, fun b hb => ⟨.inl hb, hd b hb⟩, fun b hb => .inr hb, h1, h2⟩) fun _ hb => hb

/-- A flat part in front. -/
theorem Held.pairF {M : Nat → Prop} {w0 : World} {rs : List Res} {w : World} {α β : Type} {E : Enc α} {F : Enc β} {S : Nat → Prop} {c1 c2 : List Value} {x : α} {y : β} (h : Held M w0 (rO F S c2 y :: rs) w) (hx : E.O w Nob c1 x) : Held M w0 (rO (ePr E F) S (c1 ++ c2) (x, y) :: rs) w :=
  h.turn _ (fun h2 => ⟨c1, c2, Nob, S, rfl, fun b hb => hb.elim, fun b hb => hb, hx, h2⟩) fun _ hb => hb

/-- A flat part behind. -/
theorem Held.pairB {M : Nat → Prop} {w0 : World} {rs : List Res} {w : World} {α β : Type} {E : Enc α} {F : Enc β} {S : Nat → Prop} {c1 c2 : List Value} {x : α} {y : β} (h : Held M w0 (rO E S c1 x :: rs) w) (hy : F.O w Nob c2 y) : Held M w0 (rO (ePr E F) S (c1 ++ c2) (x, y) :: rs) w :=
  h.turn _ (fun h2 => ⟨c1, c2, S, Nob, rfl, fun b hb => ⟨hb, fun h => h⟩, fun b hb => hb.elim, h2, hy⟩) fun _ hb => hb

/-- In every world that meets S, operation o yields v and does nothing else. -/
def XS (P : Program) (S : World → Prop) (L : List (Nat × Value)) (o : Oper) (v : Value) : Prop :=
  ∀ (n : Nat) (a : Act) (w : World), Env n L a → S w → (execOp a.eval o).run P w = .ok (.value v) w

abbrev Stp (P : Program) (ops : Array Oper) (Q : Exit → Act → World → Prop) (o : Oper) (a : Act) (w : World) (K : Act → World → Prop) : Prop :=
  if Region.wanted o (yielded ops a.tmps) = true then Oper.wp P o a w K Q else K (a.put o.dst undef) w

theorem wt0 {o : Oper} {ops : Array Oper} {a : Act} (hg : o.guard = none) : Region.wanted o (yielded ops a.tmps) = true := by simp [Region.wanted, hg]

theorem yielded_at {n : Nat} {L : List (Nat × Value)} {a : Act} {ops : Array Oper} {g t : Nat} {b : Bool} (hE : Env n L a) (ht : (ops[g]?).bind (·.dst) = some t) (hl : lk t L = some (.bool b)) : yielded ops a.tmps g = some b := by
  have h := hE.get t _ hl
  have hsz : a.tmps[t]? = some (.bool b) := by
    rw [Array.getD_eq_getD_getElem?] at h
    cases h' : a.tmps[t]? with
    | none => rw [h'] at h; simp [undef] at h
    | some v => rw [h'] at h; simp at h; rw [h]
  simp [yielded, ht, hsz]

theorem wtT {n : Nat} {L : List (Nat × Value)} {a : Act} {o : Oper} {ops : Array Oper} {g t : Nat} {b want : Bool} (hE : Env n L a) (hg : o.guard = some (g, want)) (ht : (ops[g]?).bind (·.dst) = some t) (hl : lk t L = some (.bool b)) (hb : b = want) : Region.wanted o (yielded ops a.tmps) = true := by
  simp [Region.wanted, hg, yielded_at hE ht hl, hb]

theorem wtF {n : Nat} {L : List (Nat × Value)} {a : Act} {o : Oper} {ops : Array Oper} {g t : Nat} {b want : Bool} (hE : Env n L a) (hg : o.guard = some (g, want)) (ht : (ops[g]?).bind (·.dst) = some t) (hl : lk t L = some (.bool b)) (hb : b = !want) : Region.wanted o (yielded ops a.tmps) = false := by
  subst hb; cases want <;> simp [Region.wanted, hg, yielded_at hE ht hl]

theorem wtU {n : Nat} {L : List (Nat × Value)} {a : Act} {o : Oper} {ops : Array Oper} {g t : Nat} {want : Bool} (hE : Env n L a) (hg : o.guard = some (g, want)) (ht : (ops[g]?).bind (·.dst) = some t) (hl : lk t L = some undef) : Region.wanted o (yielded ops a.tmps) = false := by
  have h := hE.get t _ hl
  have : yielded ops a.tmps g = none := by
    rw [Array.getD_eq_getD_getElem?] at h
    cases h' : a.tmps[t]? with
    | none => simp [yielded, ht, h']
    | some v => rw [h'] at h; simp at h; subst h; simp [yielded, ht, h', undef]
  simp [Region.wanted, hg, this]

theorem st_val {P : Program} {ops : Array Oper} {Q : Exit → Act → World → Prop} {o : Oper} {a : Act} {w w' : World} {K : Act → World → Prop} {n d : Nat} {L : List (Nat × Value)} {v : Value} (hE : Env n L a) (hw : Region.wanted o (yielded ops a.tmps) = true) (hr : (execOp a.eval o).run P w = .ok (.value v) w') (hd : o.dst = some d) (hn : Nat.blt d n = true)
    (k : ∀ a', Env n ((d, v) :: L) a' → K a' w') : Stp P ops Q o a w K := by
  unfold Stp; rw [if_pos hw]; unfold Oper.wp; rw [hr]; simp only [Oper.upon]; rw [hd]; exact k _ (hE.put hn v)

theorem st_x {P : Program} {S : World → Prop} {ops : Array Oper} {Q : Exit → Act → World → Prop} {o : Oper} {a : Act} {w : World} {K : Act → World → Prop} {n d : Nat} {L : List (Nat × Value)} {v : Value} (hE : Env n L a) (hS : S w) (hw : Region.wanted o (yielded ops a.tmps) = true) (hx : XS P S L o v) (hd : o.dst = some d) (hn : Nat.blt d n = true)
    (k : ∀ a', Env n ((d, v) :: L) a' → K a' w) : Stp P ops Q o a w K := st_val hE hw (hx _ _ _ hE hS) hd hn k

theorem st_skip {P : Program} {ops : Array Oper} {Q : Exit → Act → World → Prop} {o : Oper} {a : Act} {w w' : World} {K : Act → World → Prop} (hw : Region.wanted o (yielded ops a.tmps) = true) (hr : (execOp a.eval o).run P w = .ok .skip w') (hd : o.dst = none)
    (k : K a w') : Stp P ops Q o a w K := by
  unfold Stp; rw [if_pos hw]; unfold Oper.wp; rw [hr]; simp only [Oper.upon]; rw [hd]; exact k

theorem st_no {P : Program} {ops : Array Oper} {Q : Exit → Act → World → Prop} {o : Oper} {a : Act} {w : World} {K : Act → World → Prop} {n d : Nat} {L : List (Nat × Value)} (hE : Env n L a) (hw : Region.wanted o (yielded ops a.tmps) = false) (hd : o.dst = some d) (hn : Nat.blt d n = true)
    (k : ∀ a', Env n ((d, undef) :: L) a' → K a' w) : Stp P ops Q o a w K := by
  unfold Stp; rw [if_neg (by rw [hw]; simp), hd]; exact k _ (hE.put hn _)

def evs (L : List (Nat × Value)) : List Operand → Option (List Value)
  | [] => some []
  | x :: xs => match ev L x, evs L xs with
    | some v, some vs => some (v :: vs)
    | _, _ => none

theorem evs_map {n : Nat} {L : List (Nat × Value)} {a : Act} (hE : Env n L a) : ∀ (xs : List Operand) (vs : List Value), evs L xs = some vs → xs.map a.eval = vs
  | [], vs, h => by simp [evs] at h; subst h; rfl
  | x :: xs, vs, h => by
    simp only [evs] at h
    cases h1 : ev L x with
    | none => simp [h1] at h
    | some v =>
      cases h2 : evs L xs with
      | none => simp [h1, h2] at h
      | some us =>
        simp [h1, h2] at h
        subst h
        rw [List.map_cons, hE.ev h1, evs_map hE xs us h2]

/-- A call of a Go function by its contract. -/
theorem st_call {P : Program} {ops : Array Oper} {Q : Exit → Act → World → Prop} {o : Oper} {a : Act} {w : World} {K : Act → World → Prop} {n d F : Nat} {L : List (Nat × Value)} {f : Operand} {xs : List Operand} {ts : Array TypeId} {vs : List Value} {R : Ending → World → Prop}
    (hE : Env n L a) (hw : Region.wanted o (yielded ops a.tmps) = true) (ho : o.op = .call { callee := .value f, args := xs.toArray, argTypes := ts }) (hf : ev L f = some (.func (.func F) #[] #[])) (hx : evs L xs = some vs)
    (hen : ∀ args w, (callFunc F args).run P w = .ok (.enter F args) w) (hd : o.dst = some d) (hn : Nat.blt d n = true) (hc : Calls P F vs.toArray w R)
    (k : ∀ e w', R e w' → ∃ v, e = .returned v ∧ ∀ a', Env n ((d, v) :: L) a' → K a' w') : Stp P ops Q o a w K := by
  unfold Stp; rw [if_pos hw]; unfold Oper.wp
  have hr : (execOp a.eval o).run P w = .ok (.enter F vs.toArray) w := by
    unfold execOp
    simp only [ho, resolve, hE.ev hf, Deferred.ofValue, Sem.run_bind, Sem.run_pure, Result.andThen_ok, invoke, List.map_toArray, evs_map hE xs vs hx]
    simpa using hen vs.toArray w
  rw [hr]; simp only [Oper.upon]; rw [hd]
  refine hc.mono fun e w' hR => ?_
  obtain ⟨v, rfl, h⟩ := k e w' hR
  exact h _ (hE.put hn v)

theorem rg {P : Program} {Q : Exit → Act → World → Prop} {a : Act} {w : World} {id : Nat} {l : List Oper} (h : wpList P l.toArray Q l a w) : (Code.region id l.toArray false).wp P Q a w := wp_region_lit h

theorem dr_start {P : Program} {ops : Array Oper} {Q : Exit → Act → World → Prop} {a : Act} {w : World} {id : Nat} {M : Nat → Prop} {w0 : World} {rs : List Res} (S : World → Prop) (m : Nat) (ls : Array Bool) (hm : P.follows .mixedOrders = true) (hz : ops.size = m) (hls : Array.replicate m false = ls) (hH : Held M w0 rs w) (hS : ∀ w, Held M w0 rs w → S w)
    (k : ∀ w', Held M w0 rs w' → wpAnyH P .any ops Q S m ls a w') : (Code.region id ops true).wp P Q a w := by
  refine wp_region_held_drew (S := S) hm (hS _ hH.drew) fun _ => ?_
  rw [hz, hls]; exact k _ hH.drew

theorem dr_take {P : Program} {ops : Array Oper} {Q : Exit → Act → World → Prop} {a : Act} {w : World} {S : World → Prop} {m : Nat} {ls ls' : Array Bool} {i n d : Nat} {o : Oper} {v : Value} {L : List (Nat × Value)} (hE : Env n L a) (hS : S w) (hi : ops[i]? = some o) (hs : Region.noSelect ops = true) (hf : Region.free .any ops ls i = true) (hr : (Region.ready .any ops ls).contains i = true)
    (hQ : ∀ c a w, Q (.panic c) (a.put o.dst v) w → Q (.panic c) a w) (hls : ls.setIfInBounds i true = ls') (hw : Region.wanted o (yielded ops a.tmps) = true) (hx : XS P S L o v) (hd : o.dst = some d) (hn : Nat.blt d n = true)
    (k : ∀ a', Env n ((d, v) :: L) a' → wpAnyH P .any ops Q S m ls' a' w) : wpAnyH P .any ops Q S (m + 1) ls a w := by
  refine wpAnyH_take hi hs hf hr hQ (.inl ⟨hw, fun w hS => hx _ _ _ hE hS⟩) hS ?_
  rw [hls, hd]; exact k _ (hE.put hn v)

theorem dr_takeNo {P : Program} {ops : Array Oper} {Q : Exit → Act → World → Prop} {a : Act} {w : World} {S : World → Prop} {m : Nat} {ls ls' : Array Bool} {i n d : Nat} {o : Oper} {L : List (Nat × Value)} (hE : Env n L a) (hS : S w) (hi : ops[i]? = some o) (hs : Region.noSelect ops = true) (hf : Region.free .any ops ls i = true) (hr : (Region.ready .any ops ls).contains i = true)
    (hQ : ∀ c a w, Q (.panic c) (a.put o.dst undef) w → Q (.panic c) a w) (hls : ls.setIfInBounds i true = ls') (hw : Region.wanted o (yielded ops a.tmps) = false) (hd : o.dst = some d) (hn : Nat.blt d n = true)
    (k : ∀ a', Env n ((d, undef) :: L) a' → wpAnyH P .any ops Q S m ls' a' w) : wpAnyH P .any ops Q S (m + 1) ls a w := by
  refine wpAnyH_take hi hs hf hr hQ (.inr ⟨hw, rfl⟩) hS ?_
  rw [hls, hd]; exact k _ (hE.put hn undef)

theorem dr_one {P : Program} {ops : Array Oper} {Q : Exit → Act → World → Prop} {a : Act} {w : World} {S : World → Prop} {m : Nat} {ls ls' : Array Bool} {i : Nat} {o : Oper} (hi : ops[i]? = some o) (hr : Region.ready .any ops ls = [i]) (hls : ls.setIfInBounds i true = ls')
    (k : ∀ K : Act → World → Prop, (∀ a w, S w → wpAnyH P .any ops Q S m ls' a w → K a w) → Stp P ops Q o a w K) : wpAnyH P .any ops Q S (m + 1) ls a w := by
  subst hls
  exact wpAnyH_ready hr (by simp) (AllReadyH.cons hi (fun K hK => k K fun a w hS hW => hK.out a w hS fun _ => hW) AllReadyH.nil)

theorem dr_two {P : Program} {ops : Array Oper} {Q : Exit → Act → World → Prop} {a : Act} {w : World} {S : World → Prop} {m : Nat} {ls ls' ls'' : Array Bool} {i j : Nat} {o o' : Oper} (hi : ops[i]? = some o) (hj : ops[j]? = some o') (hr : Region.ready .any ops ls = [i, j]) (hls : ls.setIfInBounds i true = ls') (hls' : ls.setIfInBounds j true = ls'')
    (k : ∀ K : Act → World → Prop, (∀ a w, S w → wpAnyH P .any ops Q S m ls' a w → K a w) → Stp P ops Q o a w K)
    (k' : ∀ K : Act → World → Prop, (∀ a w, S w → wpAnyH P .any ops Q S m ls'' a w → K a w) → Stp P ops Q o' a w K) : wpAnyH P .any ops Q S (m + 1) ls a w := by
  subst hls hls'
  exact wpAnyH_ready hr (by simp) (AllReadyH.cons hi (fun K hK => k K fun a w hS hW => hK.out a w hS fun _ => hW) (AllReadyH.cons hj (fun K hK => k' K fun a w hS hW => hK.out a w hS fun _ => hW) AllReadyH.nil))

theorem dr_done {P : Program} {ops : Array Oper} {Q : Exit → Act → World → Prop} {a : Act} {w : World} {S : World → Prop} {m : Nat} {ls : Array Bool} (hr : Region.ready .any ops ls = []) (h : Q .normal a w) : wpAnyH P .any ops Q S m ls a w := wpAnyH_done hr h m

theorem cndT {P : Program} {Q : Exit → Act → World → Prop} {a : Act} {w : World} {c : Operand} {x y : Code} {t : Bool} {n : Nat} {L : List (Nat × Value)} (hE : Env n L a) (hc : ev L c = some (.bool t)) (ht : t = true) (h : x.wp P Q a w) : (Code.cond c x y).wp P Q a w := wp_cond_true (by rw [hE.ev hc, ht]) h

theorem cndF {P : Program} {Q : Exit → Act → World → Prop} {a : Act} {w : World} {c : Operand} {x y : Code} {t : Bool} {n : Nat} {L : List (Nat × Value)} (hE : Env n L a) (hc : ev L c = some (.bool t)) (ht : t = false) (h : y.wp P Q a w) : (Code.cond c x y).wp P Q a w := wp_cond_false (by rw [hE.ev hc, ht]) h

theorem blk_hit {Q : Exit → Act → World → Prop} {a : Act} {w : World} {id : Nat} (h : Q .normal a w) : Exit.inBlock id Q (.exit id) a w := by simpa [Exit.inBlock] using h

theorem lp {P : Program} {Q : Exit → Act → World → Prop} {a : Act} {w : World} {c : Code} (I : Nat → Act → World → Prop) (m : Nat) (h0 : I m a w)
    (round : ∀ m a w, I m a w → c.wp P (Exit.then (fun a' w' => ∃ m', m' < m ∧ I m' a' w') Q) a w) : (Code.loop c).wp P Q a w := wp_loop_ghost I m h0 round

def argL : Nat → List Value → List (Nat × Value)
  | _, [] => []
  | i, v :: vs => (i, v) :: argL (i + 1) vs

theorem lk_argL : ∀ (vs : List Value) (i t : Nat) (v : Value), lk t (argL i vs) = some v → i ≤ t ∧ vs[t - i]? = some v
  | [], _, _, _, h => by cases h
  | u :: vs, i, t, v, h => by
    simp only [argL, lk] at h
    by_cases e : Nat.beq t i = true
    · have e' := Nat.eq_of_beq_eq_true e
      subst e'
      simp at h; subst h
      exact ⟨Nat.le_refl _, by simp⟩
    · have e' : Nat.beq t i = false := Bool.eq_false_iff.2 e
      rw [e'] at h
      obtain ⟨h1, h2⟩ := lk_argL vs (i + 1) t v h
      refine ⟨by omega, ?_⟩
      rw [show t - i = (t - (i + 1)) + 1 from by omega, List.getElem?_cons_succ]; exact h2

theorem enter {P : Program} {f : FuncId} {fn : Func} {c : Code} {vs : List Value} {w : World} {R : Ending → World → Prop} {n : Nat} (hf : P.funcs[f]? = some fn) (hb : fn.body = some c) (hn : fn.ntmps = n) (hl : Nat.ble vs.length n = true)
    (k : ∀ a, Env n (argL 0 vs) a → c.wp P (bodyPost P fn R) a w) : Calls P f vs.toArray w R := by
  refine calls_of_wp hf hb (k _ ?_)
  rw [hn]
  refine Env.start (fun t v h => ?_) (Nat.le_of_ble_eq_true hl)
  have := (lk_argL vs 0 t v h).2
  simpa using this

def resSem (tmps : Array Value) : ResultVar → Sem Value
  | .tmp t => pure (tmps.getD t undef)
  | .cell a t => do loadVar t (← asAddr (tmps.getD a undef))

theorem results_eq (fn : Func) (tmps : Array Value) : results fn tmps = (do let vs ← fn.results.mapM (resSem tmps); pure (if h : vs.size = 1 then vs[0] else .tuple vs)) := by
  unfold results
  have : (fun r => match r with | ResultVar.tmp t => (pure (tmps.getD t undef) : Sem Value) | ResultVar.cell a t => do loadVar t (← asAddr (tmps.getD a undef))) = resSem tmps := by
    funext r; cases r <;> rfl
  rw [← this]; rfl

/-- What one result is. -/
def RV (P : Program) (w : World) (L : List (Nat × Value)) (r : ResultVar) (v : Value) : Prop :=
  ∀ (n : Nat) (a : Act), Env n L a → (resSem a.tmps r).run P w = .ok v w

theorem rv_tmp {P : Program} {w : World} {L : List (Nat × Value)} {t : Nat} {v : Value} (h : lk t L = some v) : RV P w L (.tmp t) v := fun _ _ hE => by
  show (Sem.pure _).run P w = _
  rw [hE.get t v h]; rfl

theorem rv_cell {P : Program} {w : World} {L : List (Nat × Value)} {ad : Nat} {t : TypeId} {p : Addr} {v : Value} (h : lk ad L = some (.pointer (some p))) (hl : (loadVar t p).run P w = .ok v w) : RV P w L (.cell ad t) v := fun _ _ hE => by
  show ((do loadVar t (← asAddr _)) : Sem Value).run P w = _
  rw [hE.get ad _ h]; simpa [asAddr] using hl

theorem ret1 {P : Program} {fn : Func} {R : Ending → World → Prop} {a : Act} {w : World} {n : Nat} {L : List (Nat × Value)} {r1 : ResultVar} {v1 : Value} (hE : Env n L a) (hr : fn.results = #[r1]) (h1 : RV P w L r1 v1) (hR : R (.returned v1) w) : bodyPost P fn R .ret a w := by
  refine ⟨hE.defers, v1, ?_, hR⟩
  rw [results_eq, hr]
  have h1 := h1 n a hE
  generalize resSem a.tmps = F at *
  simp [h1]

theorem ret2 {P : Program} {fn : Func} {R : Ending → World → Prop} {a : Act} {w : World} {n : Nat} {L : List (Nat × Value)} {r1 r2 : ResultVar} {v1 v2 : Value} (hE : Env n L a) (hr : fn.results = #[r1, r2]) (h1 : RV P w L r1 v1) (h2 : RV P w L r2 v2) (hR : R (.returned (.tuple #[v1, v2])) w) : bodyPost P fn R .ret a w := by
  refine ⟨hE.defers, _, ?_, hR⟩
  rw [results_eq, hr]
  have h1 := h1 n a hE
  have h2 := h2 n a hE
  generalize resSem a.tmps = F at *
  simp [h1, h2]

theorem fin0 {P : Program} {fn : Func} {R : Ending → World → Prop} {a : Act} {w : World} {n : Nat} {L : List (Nat × Value)} (hE : Env n L a) (hr : fn.results = #[]) (hR : R (.returned (.tuple #[])) w) : bodyPost P fn R .normal a w := by
  refine ⟨hE.defers, _, ?_, hR⟩
  unfold results
  rw [hr]
  simp

theorem nrm {next : Act → World → Prop} {Q : Exit → Act → World → Prop} {a : Act} {w : World} (h : next a w) : Exit.then next Q .normal a w := h

theorem thn_ret {next : Act → World → Prop} {Q : Exit → Act → World → Prop} {a : Act} {w : World} (h : Q .ret a w) : Exit.then next Q .ret a w := h

theorem thn_exit {next : Act → World → Prop} {Q : Exit → Act → World → Prop} {a : Act} {w : World} {id : Nat} (h : Q (.exit id) a w) : Exit.then next Q (.exit id) a w := h

theorem blk_n {Q : Exit → Act → World → Prop} {a : Act} {w : World} {id : Nat} (h : Q .normal a w) : Exit.inBlock id Q .normal a w := h

theorem blk_ret {Q : Exit → Act → World → Prop} {a : Act} {w : World} {id : Nat} (h : Q .ret a w) : Exit.inBlock id Q .ret a w := h

theorem cnd_b {P : Program} {Q : Exit → Act → World → Prop} {a : Act} {w : World} {c : Operand} {x y : Code} {t : Bool} {n : Nat} {L : List (Nat × Value)} (hE : Env n L a) (hc : ev L c = some (.bool t)) (ht : t = true → x.wp P Q a w) (hf : t = false → y.wp P Q a w) : (Code.cond c x y).wp P Q a w := wp_cond_split (hE.ev hc) ht hf

theorem cnd_nb {P : Program} {Q : Exit → Act → World → Prop} {a : Act} {w : World} {c : Operand} {x y : Code} {t : Bool} {n : Nat} {L : List (Nat × Value)} (hE : Env n L a) (hc : ev L c = some (.bool !t)) (ht : t = false → x.wp P Q a w) (hf : t = true → y.wp P Q a w) : (Code.cond c x y).wp P Q a w := wp_cond_split (hE.ev hc) (fun h => ht (by simpa using h)) (fun h => hf (by simpa using h))

theorem cnd_d {P : Program} {Q : Exit → Act → World → Prop} {a : Act} {w : World} {c : Operand} {x y : Code} {p : Prop} [Decidable p] {n : Nat} {L : List (Nat × Value)} (hE : Env n L a) (hc : ev L c = some (.bool (decide p))) (ht : p → x.wp P Q a w) (hf : ¬ p → y.wp P Q a w) : (Code.cond c x y).wp P Q a w := wp_cond_split (hE.ev hc) (fun h => ht (of_decide_eq_true h)) (fun h => hf (of_decide_eq_false h))

theorem cnd_nd {P : Program} {Q : Exit → Act → World → Prop} {a : Act} {w : World} {c : Operand} {x y : Code} {p : Prop} [Decidable p] {n : Nat} {L : List (Nat × Value)} (hE : Env n L a) (hc : ev L c = some (.bool !decide p)) (ht : ¬ p → x.wp P Q a w) (hf : p → y.wp P Q a w) : (Code.cond c x y).wp P Q a w := wp_cond_split (hE.ev hc) (fun h => ht (by simpa using h)) (fun h => hf (by simpa using h))

theorem cnd_e {P : Program} {Q : Exit → Act → World → Prop} {a : Act} {w : World} {c : Operand} {x y : Code} {m k : Int} {n : Nat} {L : List (Nat × Value)} (hE : Env n L a) (hc : ev L c = some (.bool (m == k))) (ht : m = k → x.wp P Q a w) (hf : ¬ m = k → y.wp P Q a w) : (Code.cond c x y).wp P Q a w := wp_cond_split (hE.ev hc) (fun h => ht (by simpa using h)) (fun h => hf (by simpa using h))

theorem cnd_ne {P : Program} {Q : Exit → Act → World → Prop} {a : Act} {w : World} {c : Operand} {x y : Code} {m k : Int} {n : Nat} {L : List (Nat × Value)} (hE : Env n L a) (hc : ev L c = some (.bool (m != k))) (ht : ¬ m = k → x.wp P Q a w) (hf : m = k → y.wp P Q a w) : (Code.cond c x y).wp P Q a w := wp_cond_split (hE.ev hc) (fun h => ht (by simpa using h)) (fun h => hf (by simpa using h))

theorem beq_t {m k : Int} (h : m = k) : (m == k) = true := by simp [h]

theorem beq_f {m k : Int} (h : ¬ m = k) : (m == k) = false := by simp [h]

theorem bne_t {m k : Int} (h : ¬ m = k) : (m != k) = true := by simp [h]

theorem bne_f {m k : Int} (h : m = k) : (m != k) = false := by simp [h]

theorem not_t {b : Bool} (h : b = false) : (!b) = true := by simp [h]

theorem not_f {b : Bool} (h : b = true) : (!b) = false := by simp [h]

theorem pl {P : Program} {ops : Array Oper} {Q : Exit → Act → World → Prop} {o : Oper} {rest : List Oper} {a : Act} {w : World} (h : ∀ K : Act → World → Prop, (∀ a w, wpList P ops Q rest a w → K a w) → Stp P ops Q o a w K) : wpList P ops Q (o :: rest) a w := wpList_step h

theorem pl_x {P : Program} {S : World → Prop} {ops : Array Oper} {Q : Exit → Act → World → Prop} {o : Oper} {rest : List Oper} {a : Act} {w : World} {n d : Nat} {L : List (Nat × Value)} {v : Value} (hE : Env n L a) (hS : S w) (hw : Region.wanted o (yielded ops a.tmps) = true) (hx : XS P S L o v) (hd : o.dst = some d) (hn : Nat.blt d n = true)
    (k : ∀ a', Env n ((d, v) :: L) a' → wpList P ops Q rest a' w) : wpList P ops Q (o :: rest) a w := pl fun _ hK => st_x hE hS hw hx hd hn fun a' hE' => hK _ _ (k a' hE')

theorem pl_no {P : Program} {ops : Array Oper} {Q : Exit → Act → World → Prop} {o : Oper} {rest : List Oper} {a : Act} {w : World} {n d : Nat} {L : List (Nat × Value)} (hE : Env n L a) (hw : Region.wanted o (yielded ops a.tmps) = false) (hd : o.dst = some d) (hn : Nat.blt d n = true)
    (k : ∀ a', Env n ((d, undef) :: L) a' → wpList P ops Q rest a' w) : wpList P ops Q (o :: rest) a w := pl fun _ hK => st_no hE hw hd hn fun a' hE' => hK _ _ (k a' hE')

/-- The ways through a piece of code meet again. -/
theorem wp_join {P : Program} {c : Code} {Q : Exit → Act → World → Prop} {a : Act} {w : World} (J : Act → World → Prop) (h1 : c.wp P (Exit.then J Q) a w) (h2 : ∀ a w, J a w → Q .normal a w) : c.wp P Q a w := by
  refine wp_mono h1 fun e a w h => ?_
  cases e with
  | normal => exact h2 a w h
  | exit id => exact h
  | goto l => exact h
  | ret => exact h
  | panic ch => exact h
  | outgrown => exact h

theorem x_move {P : Program} {S : World → Prop} {L : List (Nat × Value)} {d : Option Tmp} {x : Operand} {v : Value} {ty : TypeId} {pos : String} {af : Array Edge} {g : Option (Nat × Bool)} (hx : ev L x = some v) : XS P S L ⟨d, .move x, ty, pos, af, g⟩ v := fun _ _ _ hE _ => by simp [execOp, hE.ev hx]

theorem x_assign {P : Program} {S : World → Prop} {L : List (Nat × Value)} {d : Option Tmp} {x : Operand} {v : Value} {ty : TypeId} {pos : String} {af : Array Edge} {g : Option (Nat × Bool)} (hx : ev L x = some v) : XS P S L ⟨d, .assign x, ty, pos, af, g⟩ v := fun _ _ _ hE _ => by simp [execOp, hE.ev hx]

theorem x_pickT {P : Program} {S : World → Prop} {L : List (Nat × Value)} {d : Option Tmp} {c x y : Operand} {b : Bool} {v : Value} {ty : TypeId} {pos : String} {af : Array Edge} {g : Option (Nat × Bool)} (hc : ev L c = some (.bool b)) (hb : b = true) (hx : ev L x = some v) : XS P S L ⟨d, .pick c x y, ty, pos, af, g⟩ v := fun _ _ _ hE _ => by subst hb; simp [execOp, hE.ev hx, hE.ev hc, asBool]

theorem x_pickF {P : Program} {S : World → Prop} {L : List (Nat × Value)} {d : Option Tmp} {c x y : Operand} {b : Bool} {v : Value} {ty : TypeId} {pos : String} {af : Array Edge} {g : Option (Nat × Bool)} (hc : ev L c = some (.bool b)) (hb : b = false) (hy : ev L y = some v) : XS P S L ⟨d, .pick c x y, ty, pos, af, g⟩ v := fun _ _ _ hE _ => by subst hb; simp [execOp, hE.ev hy, hE.ev hc, asBool]

theorem x_not {P : Program} {S : World → Prop} {L : List (Nat × Value)} {d : Option Tmp} {t : TypeId} {x : Operand} {b : Bool} {ty : TypeId} {pos : String} {af : Array Edge} {g : Option (Nat × Bool)} (hx : ev L x = some (.bool b)) : XS P S L ⟨d, .unOp .not t x, ty, pos, af, g⟩ (.bool !b) := fun _ _ _ hE _ => by simp [execOp, hE.ev hx, Op.unary]

theorem x_neg {P : Program} {S : World → Prop} {L : List (Nat × Value)} {d : Option Tmp} {t : TypeId} {x : Operand} {m : Int} {ty : TypeId} {pos : String} {af : Array Edge} {g : Option (Nat × Bool)} (hx : ev L x = some (.int .i64 m)) (h : I64 (-m)) : XS P S L ⟨d, .unOp .neg t x, ty, pos, af, g⟩ (.int .i64 (-m)) := fun _ _ _ hE _ => by
  have e : IntKind.i64.wrap (0 - m) = -m := by rw [Int.zero_sub]; exact IntWalk.i64_in _ (by unfold I64 at h; omega)
  simp only [execOp, hE.ev hx, Op.unary, Op.intArith, e]; rfl

theorem x_add {P : Program} {S : World → Prop} {L : List (Nat × Value)} {d : Option Tmp} {t t' : TypeId} {x y : Operand} {m k : Int} {ty : TypeId} {pos : String} {af : Array Edge} {g : Option (Nat × Bool)} (hx : ev L x = some (.int .i64 m)) (hy : ev L y = some (.int .i64 k)) (h : I64 (m + k)) : XS P S L ⟨d, .binOp .add t x y t', ty, pos, af, g⟩ (.int .i64 (m + k)) := fun _ _ _ hE _ => by
  have e : IntKind.i64.wrap (m + k) = m + k := IntWalk.i64_in _ (by unfold I64 at h; omega)
  simp only [execOp, hE.ev hx, hE.ev hy, eqGuard, binOp, Op.intArith, e]; rfl

theorem x_sub {P : Program} {S : World → Prop} {L : List (Nat × Value)} {d : Option Tmp} {t t' : TypeId} {x y : Operand} {m k : Int} {ty : TypeId} {pos : String} {af : Array Edge} {g : Option (Nat × Bool)} (hx : ev L x = some (.int .i64 m)) (hy : ev L y = some (.int .i64 k)) (h : I64 (m - k)) : XS P S L ⟨d, .binOp .sub t x y t', ty, pos, af, g⟩ (.int .i64 (m - k)) := fun _ _ _ hE _ => by
  have e : IntKind.i64.wrap (m - k) = m - k := IntWalk.i64_in _ (by unfold I64 at h; omega)
  simp only [execOp, hE.ev hx, hE.ev hy, eqGuard, binOp, Op.intArith, e]; rfl

theorem x_mul {P : Program} {S : World → Prop} {L : List (Nat × Value)} {d : Option Tmp} {t t' : TypeId} {x y : Operand} {m k : Int} {ty : TypeId} {pos : String} {af : Array Edge} {g : Option (Nat × Bool)} (hx : ev L x = some (.int .i64 m)) (hy : ev L y = some (.int .i64 k)) (h : I64 (m * k)) : XS P S L ⟨d, .binOp .mul t x y t', ty, pos, af, g⟩ (.int .i64 (m * k)) := fun _ _ _ hE _ => by
  have e : IntKind.i64.wrap (m * k) = m * k := IntWalk.i64_in _ (by unfold I64 at h; omega)
  simp only [execOp, hE.ev hx, hE.ev hy, eqGuard, binOp, Op.intArith, e]; rfl

theorem x_lss {P : Program} {S : World → Prop} {L : List (Nat × Value)} {d : Option Tmp} {t t' : TypeId} {x y : Operand} {q : IntKind} {m k : Int} {ty : TypeId} {pos : String} {af : Array Edge} {g : Option (Nat × Bool)} (hx : ev L x = some (.int q m)) (hy : ev L y = some (.int q k)) : XS P S L ⟨d, .binOp .lss t x y t', ty, pos, af, g⟩ (.bool (decide (m < k))) := fun _ _ _ hE _ => by
  simp [execOp, hE.ev hx, hE.ev hy, eqGuard, binOp, Op.intCmp]

theorem x_leq {P : Program} {S : World → Prop} {L : List (Nat × Value)} {d : Option Tmp} {t t' : TypeId} {x y : Operand} {q : IntKind} {m k : Int} {ty : TypeId} {pos : String} {af : Array Edge} {g : Option (Nat × Bool)} (hx : ev L x = some (.int q m)) (hy : ev L y = some (.int q k)) : XS P S L ⟨d, .binOp .leq t x y t', ty, pos, af, g⟩ (.bool (decide (m ≤ k))) := fun _ _ _ hE _ => by
  simp [execOp, hE.ev hx, hE.ev hy, eqGuard, binOp, Op.intCmp]

theorem x_gtr {P : Program} {S : World → Prop} {L : List (Nat × Value)} {d : Option Tmp} {t t' : TypeId} {x y : Operand} {q : IntKind} {m k : Int} {ty : TypeId} {pos : String} {af : Array Edge} {g : Option (Nat × Bool)} (hx : ev L x = some (.int q m)) (hy : ev L y = some (.int q k)) : XS P S L ⟨d, .binOp .gtr t x y t', ty, pos, af, g⟩ (.bool (decide (k < m))) := fun _ _ _ hE _ => by
  simp [execOp, hE.ev hx, hE.ev hy, eqGuard, binOp, Op.intCmp]

theorem x_geq {P : Program} {S : World → Prop} {L : List (Nat × Value)} {d : Option Tmp} {t t' : TypeId} {x y : Operand} {q : IntKind} {m k : Int} {ty : TypeId} {pos : String} {af : Array Edge} {g : Option (Nat × Bool)} (hx : ev L x = some (.int q m)) (hy : ev L y = some (.int q k)) : XS P S L ⟨d, .binOp .geq t x y t', ty, pos, af, g⟩ (.bool (decide (k ≤ m))) := fun _ _ _ hE _ => by
  simp [execOp, hE.ev hx, hE.ev hy, eqGuard, binOp, Op.intCmp]

theorem x_eql {P : Program} {S : World → Prop} {L : List (Nat × Value)} {d : Option Tmp} {t t' : TypeId} {x y : Operand} {q : IntKind} {m k : Int} {ty : TypeId} {pos : String} {af : Array Edge} {g : Option (Nat × Bool)} (hx : ev L x = some (.int q m)) (hy : ev L y = some (.int q k)) : XS P S L ⟨d, .binOp .eql t x y t', ty, pos, af, g⟩ (.bool (m == k)) := fun _ _ _ hE _ => by
  simp [execOp, hE.ev hx, hE.ev hy, eqGuard, binOp, Op.intCmp]

theorem x_neq {P : Program} {S : World → Prop} {L : List (Nat × Value)} {d : Option Tmp} {t t' : TypeId} {x y : Operand} {q : IntKind} {m k : Int} {ty : TypeId} {pos : String} {af : Array Edge} {g : Option (Nat × Bool)} (hx : ev L x = some (.int q m)) (hy : ev L y = some (.int q k)) : XS P S L ⟨d, .binOp .neq t x y t', ty, pos, af, g⟩ (.bool (m != k)) := fun _ _ _ hE _ => by
  simp [execOp, hE.ev hx, hE.ev hy, eqGuard, binOp, Op.intCmp]

theorem x_seql {P : Program} {S : World → Prop} {L : List (Nat × Value)} {d : Option Tmp} {t t' : TypeId} {x y : Operand} {m k : ByteArray} {ty : TypeId} {pos : String} {af : Array Edge} {g : Option (Nat × Bool)} (hx : ev L x = some (.string m)) (hy : ev L y = some (.string k)) : XS P S L ⟨d, .binOp .eql t x y t', ty, pos, af, g⟩ (.bool (m.toList == k.toList)) := fun _ _ _ hE _ => by
  simp only [execOp, hE.ev hx, hE.ev hy, eqGuard, binOp, Op.stringOp]; rfl

theorem x_sneq {P : Program} {S : World → Prop} {L : List (Nat × Value)} {d : Option Tmp} {t t' : TypeId} {x y : Operand} {m k : ByteArray} {ty : TypeId} {pos : String} {af : Array Edge} {g : Option (Nat × Bool)} (hx : ev L x = some (.string m)) (hy : ev L y = some (.string k)) : XS P S L ⟨d, .binOp .neq t x y t', ty, pos, af, g⟩ (.bool (!(m.toList == k.toList))) := fun _ _ _ hE _ => by
  simp only [execOp, hE.ev hx, hE.ev hy, eqGuard, binOp, Op.stringOp]; rfl

/-- A conversion between integers that keeps the number. -/
theorem x_conv {P : Program} {S : World → Prop} {L : List (Nat × Value)} {d : Option Tmp} {s t : TypeId} {x : Operand} {q : IntKind} {m : Int} {ty : TypeId} {pos : String} {af : Array Edge} {g : Option (Nat × Bool)} {sd : TypeDesc} (hs : P.underlying s = some sd) (ht : P.underlying t = some (.int .i64)) (hx : ev L x = some (.int q m)) (h : I64 m) : XS P S L ⟨d, .convert s t x, ty, pos, af, g⟩ (.int .i64 m) := fun _ _ _ hE _ => by
  have e : IntKind.i64.wrap m = m := IntWalk.i64_in _ (by unfold I64 at h; omega)
  simp [execOp, hE.ev hx, convert, run_underlying hs, run_underlying ht, Conv.intToInt, e]

theorem x_nilCheck {P : Program} {S : World → Prop} {L : List (Nat × Value)} {d : Option Tmp} {x : Operand} {p : Addr} {ty : TypeId} {pos : String} {af : Array Edge} {g : Option (Nat × Bool)} (hx : ev L x = some (.pointer (some p))) : XS P S L ⟨d, .nilCheck x, ty, pos, af, g⟩ (.pointer (some p)) := fun _ _ _ hE _ => by simp [execOp, hE.ev hx]

theorem x_makeFunc {P : Program} {S : World → Prop} {L : List (Nat × Value)} {d : Option Tmp} {f : Fn} {fi ca : List Operand} {fv cv : List Value} {ty : TypeId} {pos : String} {af : Array Edge} {g : Option (Nat × Bool)} (hf : evs L fi = some fv) (hc : evs L ca = some cv) : XS P S L ⟨d, .makeFunc f fi.toArray ca.toArray, ty, pos, af, g⟩ (.func f fv.toArray cv.toArray) := fun _ _ _ hE _ => by
  simp [execOp, evs_map hE _ _ hf, evs_map hE _ _ hc, Instr.makeFunc]

theorem x_extract {P : Program} {S : World → Prop} {L : List (Nat × Value)} {d : Option Tmp} {x : Operand} {i : Nat} {vs : List Value} {v : Value} {ty : TypeId} {pos : String} {af : Array Edge} {g : Option (Nat × Bool)} (hx : ev L x = some (.tuple vs.toArray)) (hi : vs[i]? = some v) : XS P S L ⟨d, .extract x i, ty, pos, af, g⟩ v := fun _ _ _ hE _ => by
  simp [execOp, hE.ev hx, Instr.extract, hi]

theorem x_len {P : Program} {S : World → Prop} {L : List (Nat × Value)} {d : Option Tmp} {x : Operand} {t e : TypeId} {A : Option Addr} {n c : Nat} {ty : TypeId} {pos : String} {af : Array Edge} {g : Option (Nat × Bool)} (ht : P.underlying t = some (.slice e)) (hx : ev L x = some (.slice A n c)) : XS P S L ⟨d, .call { callee := .builtin .len, args := #[x], argTypes := #[t] }, ty, pos, af, g⟩ (.int .i64 n) := fun _ _ _ hE _ => by
  simp [execOp, resolve, invoke, builtin, Builtin.len_, run_underlying ht, hE.ev hx, goInt]

theorem x_lenS {P : Program} {S : World → Prop} {L : List (Nat × Value)} {d : Option Tmp} {x : Operand} {t : TypeId} {s : ByteArray} {ty : TypeId} {pos : String} {af : Array Edge} {g : Option (Nat × Bool)} (ht : P.underlying t = some .string) (hx : ev L x = some (.string s)) : XS P S L ⟨d, .call { callee := .builtin .len, args := #[x], argTypes := #[t] }, ty, pos, af, g⟩ (.int .i64 s.size) := fun _ _ _ hE _ => by
  simp [execOp, resolve, invoke, builtin, Builtin.len_, run_underlying ht, hE.ev hx, goInt]

theorem x_fieldAddr {P : Program} {S : World → Prop} {L : List (Nat × Value)} {d : Option Tmp} {x : Operand} {t : TypeId} {f b o fo : Nat} {ty : TypeId} {pos : String} {af : Array Edge} {g : Option (Nat × Bool)} (hfa : ∀ b o w, (Instr.fieldAt t (.pointer (some ⟨b, o, none⟩)) f).run P w = .ok (.pointer (some ⟨b, o + fo, none⟩)) w) (hx : ev L x = some (.pointer (some ⟨b, o, none⟩))) : XS P S L ⟨d, .fieldAddr t x f, ty, pos, af, g⟩ (.pointer (some ⟨b, o + fo, none⟩)) := fun _ _ w hE _ => by
  simp [execOp, hE.ev hx, hfa]

theorem fieldAt_of {P : Program} {t : TypeId} {fs : Array Field} {f : Nat} {fl : Field} {i : TypeInfo} (hu : P.underlying t = some (.struct fs)) (hf : fs[f]? = some fl) (hi : P.info? fl.type = some i) (hz : i.size ≠ 0) (b o : Nat) (w : World) : (Instr.fieldAt t (.pointer (some ⟨b, o, none⟩)) f).run P w = .ok (.pointer (some ⟨b, o + fl.offset, none⟩)) w := by
  simp [Instr.fieldAt, run_underlying hu, hf, Instr.sureAddr, fieldPlace, sizeOf, typeInfo, hi, hz, add_none]

/-- What is known of a slice type. -/
structure TSl (P : Program) (t e : TypeId) (sz bytes : Nat) : Prop where
  under : P.underlying t = some (.slice e)
  info : ∃ i z, P.info? e = some i ∧ i.zero = some z ∧ i.size = sz ∧ i.bytes = bytes ∧ z.cells.size = sz

theorem x_indexAddr {P : Program} {S : World → Prop} {L : List (Nat × Value)} {d : Option Tmp} {x y : Operand} {t e : TypeId} {sz by_ : Nat} {A : Option Addr} {n c b off k : Nat} {q : IntKind} {m : Int} {ty : TypeId} {pos : String} {af : Array Edge} {g : Option (Nat × Bool)} (ht : TSl P t e sz by_) (hx : ev L x = some (.slice A n c)) (hy : ev L y = some (.int q m)) (hA : A = some ⟨b, off, none⟩) (hm : m = (k : Int)) (hk : k < n) : XS P S L ⟨d, .indexAddr t x y, ty, pos, af, g⟩ (.pointer (some ⟨b, off + k * sz, none⟩)) := fun _ _ w hE _ => by
  obtain ⟨i, z, h1, _, h2, _⟩ := ht.info
  subst hA hm h2
  have h3 : (0 : Int) ≤ (k : Int) ∧ (k : Int) < (n : Int) := by omega
  simp [execOp, hE.ev hx, hE.ev hy, Instr.indexAt, asIntOf, run_underlying ht.under, sizeOf, typeInfo, h1, hk, add_none]

def isAggD : TypeDesc → Bool
  | .struct _ => true
  | .array _ _ => true
  | _ => false

/-- What is known of a variable's type: its cells, what they hold at first. -/
structure TV (P : Program) (t : TypeId) (agg : Bool) (zs : List Value) : Prop where
  under : ∃ d, P.underlying t = some d ∧ isAggD d = agg
  info : ∃ i z, P.info? t = some i ∧ i.zero = some z ∧ i.size = zs.length ∧ z.cells = zs.toArray

theorem TV.isAgg {P : Program} {t : TypeId} {agg : Bool} {zs : List Value} (h : TV P t agg zs) (w : World) : (Go.isAgg t).run P w = .ok agg w := by
  obtain ⟨d, h1, h2⟩ := h.under
  subst h2
  unfold Go.isAgg
  cases d <;> simp [run_underlying h1, isAggD]

theorem TV.load1 {P : Program} {t : TypeId} {zs : List Value} (h : TV P t false zs) {p : Addr} {w : World} {v : Value} (hc : w.cell? p = some v) : (loadVar t p).run P w = .ok v w := by
  unfold loadVar
  simp [h.isAgg w, hc]

theorem run_loadCellsFrom {P : Program} {w : World} {b o : Nat} : ∀ (cs : List Value) (i : Nat) (acc : Array Value), (∀ j v, cs[j]? = some v → w.cell? ⟨b, o + (i + j), none⟩ = some v) → (loadCellsFrom ⟨b, o, none⟩ i cs.length acc).run P w = .ok (acc ++ cs.toArray) w
  | [], i, acc, _ => by simp [loadCellsFrom]
  | v :: cs, i, acc, h => by
    have h0 := h 0 v rfl
    rw [Nat.add_zero] at h0
    have ih := run_loadCellsFrom (P := P) cs (i + 1) (acc.push v) fun j u hu => by
      have := h (j + 1) u (by simpa using hu)
      rw [show i + (j + 1) = i + 1 + j from by omega] at this; exact this
    rw [List.length_cons]
    simp only [loadCellsFrom, Go.load, add_none, Sem.run_bind, Sem.run, h0, Result.andThen_ok, ih]
    simp

theorem TV.loadN {P : Program} {t : TypeId} {zs cs : List Value} (h : TV P t true zs) {b o : Nat} {w : World} (hl : cs.length = zs.length) (hc : ∀ j v, cs[j]? = some v → w.cell? ⟨b, o + j, none⟩ = some v) : (loadVar t ⟨b, o, none⟩).run P w = .ok (.agg cs.toArray) w := by
  obtain ⟨i, z, h1, h2, h3, h4⟩ := h.info
  have hL := run_loadCellsFrom (P := P) (w := w) (b := b) (o := o) cs 0 #[] (fun j v hv => by rw [Nat.zero_add]; exact hc j v hv)
  unfold loadVar loadCells
  simp only [Sem.run_bind, h.isAgg w, Result.andThen_ok, sizeOf, typeInfo]
  simp [h1, h3, ← hl, hL]

theorem x_load1 {P : Program} {S : World → Prop} {L : List (Nat × Value)} {d : Option Tmp} {x : Operand} {t : TypeId} {zs : List Value} {p : Addr} {v : Value} {ty : TypeId} {pos : String} {af : Array Edge} {g : Option (Nat × Bool)} (ht : TV P t false zs) (hx : ev L x = some (.pointer (some p))) (hc : ∀ w, S w → w.cell? p = some v) : XS P S L ⟨d, .load t x, ty, pos, af, g⟩ v := fun _ _ w hE hS => by
  simp [execOp, hE.ev hx, Instr.loadAt, Instr.sureAddr, ht.load1 (hc w hS)]

theorem x_loadN {P : Program} {S : World → Prop} {L : List (Nat × Value)} {d : Option Tmp} {x : Operand} {t : TypeId} {zs cs : List Value} {b o : Nat} {ty : TypeId} {pos : String} {af : Array Edge} {g : Option (Nat × Bool)} (ht : TV P t true zs) (hx : ev L x = some (.pointer (some ⟨b, o, none⟩))) (hl : cs.length = zs.length) (hc : ∀ w, S w → ∀ j v, cs[j]? = some v → w.cell? ⟨b, o + j, none⟩ = some v) : XS P S L ⟨d, .load t x, ty, pos, af, g⟩ (.agg cs.toArray) := fun _ _ w hE hS => by
  simp [execOp, hE.ev hx, Instr.loadAt, Instr.sureAddr, ht.loadN hl (hc w hS)]

/-- What a held block's cell holds. -/
theorem c_blk {M : Nat → Prop} {w0 : World} {rs : List Res} {g : Nat} {t : TypeId} {cs : List Value} {v : Value} {o : Nat} (i : Nat) (hi : rs[i]? = some (rBlk g t cs)) (hv : cs[o]? = some v) : ∀ w, Held M w0 rs w → w.cell? ⟨g, o, none⟩ = some v := fun w h => by
  have h1 : Blk w g t cs.toArray := h.get hi
  rw [h1.cell]; simpa using hv

theorem c_blkN {M : Nat → Prop} {w0 : World} {rs : List Res} {g : Nat} {t : TypeId} {cs : List Value} (i : Nat) (hi : rs[i]? = some (rBlk g t cs)) : ∀ w, Held M w0 rs w → ∀ j v, cs[j]? = some v → w.cell? ⟨g, 0 + j, none⟩ = some v := fun w h j v hv => by
  rw [Nat.zero_add]; exact c_blk i hi hv w h

/-- What a cell held at the start. -/
theorem c_old {w0 : World} {rs : List Res} {b o : Nat} {v : Value} (hc : w0.cell? ⟨b, o, none⟩ = some v) : ∀ w, Held Nob w0 rs w → w.cell? ⟨b, o, none⟩ = some v := fun w h => by
  rw [h.cell0 (lt_of_cell hc) fun h => h]; exact hc

theorem c_oldN {w0 : World} {rs : List Res} {b o : Nat} {cs : List Value} (hc : ∀ j v, cs[j]? = some v → w0.cell? ⟨b, o + j, none⟩ = some v) : ∀ w, Held Nob w0 rs w → ∀ j v, cs[j]? = some v → w.cell? ⟨b, o + j, none⟩ = some v := fun w h j v hv => c_old (hc j v hv) w h

/-- An element of a slice that was there at the start. -/
theorem el_old {w0 : World} {α : Type} {E : Enc α} {A : Option Addr} {c : Nat} {xs : List α} (h : Sl E w0 (Old w0) A c xs) {k : Nat} (hk : k < xs.length) :
    ∃ b off es, A = some ⟨b, off, none⟩ ∧ E.R w0 (Old w0) es xs[k] ∧ ∀ j v, es[j]? = some v → w0.cell? ⟨b, off + k * E.size + j, none⟩ = some v := by
  obtain ⟨b, off, es, h1, _, h2, h3⟩ := h.at hk
  exact ⟨b, off, es, h1, h2, h3⟩

/-- An element of an owned slice of flat elements. -/
theorem el_own {α : Type} {E : Enc α} {S : Nat → Prop} {A : Option Addr} {c : Nat} {xs : List α} {M : Nat → Prop} {w0 w : World} {rs : List Res} {i : Nat} (h : Held M w0 rs w) (hi : rs[i]? = some (rSo E S A c xs)) {k : Nat} (hk : k < xs.length) : ∃ b off, A = some ⟨b, off, none⟩ := by
  obtain ⟨b, off, es, h1, _⟩ := (h.sl hi).at hk
  exact ⟨b, off, h1⟩

theorem run_alloc {P : Program} {n : Nat} {a : Act} {L : List (Nat × Value)} {w : World} {t : TypeId} {agg : Bool} {zs : List Value} {d : Option Tmp} {ty : TypeId} {pos : String} {af : Array Edge} {g : Option (Nat × Bool)} (hE : Env n L a) (ht : TV P t agg zs) : (execOp a.eval ⟨d, .alloc t, ty, pos, af, g⟩).run P w = .ok (.value (.pointer (some ⟨w.heap.size, 0, none⟩))) (w.alloc (.cells zs.toArray t)) := by
  obtain ⟨i, z, h1, h2, h3, h4⟩ := ht.info
  simp [execOp, Instr.alloc, zeroValue, typeInfo, h1, h2, newVar, newRow, h4]

theorem run_box {P : Program} {n : Nat} {a : Act} {L : List (Nat × Value)} {w : World} {t : TypeId} {x : Operand} {v : Value} {cs : List Value} {d : Option Tmp} {ty : TypeId} {pos : String} {af : Array Edge} {g : Option (Nat × Bool)} (hE : Env n L a) (hx : ev L x = some v) (hv : v.cells = cs.toArray) : (execOp a.eval ⟨d, .box t x, ty, pos, af, g⟩).run P w = .ok (.value (.pointer (some ⟨w.heap.size, 0, none⟩))) (w.alloc (.cells cs.toArray t)) := by
  simp [execOp, Instr.box, hE.ev hx, newVar, newRow, hv]

theorem st_alloc {P : Program} {ops : Array Oper} {Q : Exit → Act → World → Prop} {a : Act} {w : World} {K : Act → World → Prop} {n d : Nat} {L : List (Nat × Value)} {M : Nat → Prop} {w0 : World} {rs : List Res} {t : TypeId} {agg : Bool} {zs : List Value} {ty : TypeId} {pos : String} {af : Array Edge} {g : Option (Nat × Bool)} (hE : Env n L a) (hH : Held M w0 rs w) (ht : TV P t agg zs) (hw : Region.wanted ⟨some d, .alloc t, ty, pos, af, g⟩ (yielded ops a.tmps) = true) (hn : Nat.blt d n = true)
    (k : ∀ q a' w', Env n ((d, .pointer (some ⟨q, 0, none⟩)) :: L) a' → Held M w0 (rBlk q t zs :: rs) w' → K a' w') : Stp P ops Q ⟨some d, .alloc t, ty, pos, af, g⟩ a w K :=
  st_val hE hw (run_alloc hE ht) rfl hn fun a' hE' => k _ a' _ hE' (hH.alloc t zs)

theorem st_box {P : Program} {ops : Array Oper} {Q : Exit → Act → World → Prop} {a : Act} {w : World} {K : Act → World → Prop} {n d : Nat} {L : List (Nat × Value)} {M : Nat → Prop} {w0 : World} {rs : List Res} {t : TypeId} {x : Operand} {v : Value} {cs : List Value} {ty : TypeId} {pos : String} {af : Array Edge} {g : Option (Nat × Bool)} (hE : Env n L a) (hH : Held M w0 rs w) (hx : ev L x = some v) (hv : v.cells = cs.toArray) (hw : Region.wanted ⟨some d, .box t x, ty, pos, af, g⟩ (yielded ops a.tmps) = true) (hn : Nat.blt d n = true)
    (k : ∀ q a' w', Env n ((d, .pointer (some ⟨q, 0, none⟩)) :: L) a' → Held M w0 (rBlk q t cs :: rs) w' → K a' w') : Stp P ops Q ⟨some d, .box t x, ty, pos, af, g⟩ a w K :=
  st_val hE hw (run_box hE hx hv) rfl hn fun a' hE' => k _ a' _ hE' (hH.alloc t cs)

/-- A slice literal. -/
theorem st_lit {P : Program} {ops : Array Oper} {Q : Exit → Act → World → Prop} {o : Oper} {a : Act} {w : World} {K : Act → World → Prop} {n d m : Nat} {L : List (Nat × Value)} {M : Nat → Prop} {w0 : World} {rs : List Res} {e : TypeId} {cs : List Value} (hE : Env n L a) (hH : Held M w0 rs w)
    (hr : (execOp a.eval o).run P w = .ok (.value (.slice (some ⟨w.heap.size, 0, none⟩) m m)) (w.alloc (.cells cs.toArray e))) (hw : Region.wanted o (yielded ops a.tmps) = true) (hd : o.dst = some d) (hn : Nat.blt d n = true)
    (k : ∀ q a' w', Env n ((d, .slice (some ⟨q, 0, none⟩) m m) :: L) a' → Held M w0 (rBlk q e cs :: rs) w' → K a' w') : Stp P ops Q o a w K :=
  st_val hE hw hr hd hn fun a' hE' => k _ a' _ hE' (hH.alloc e cs)

def setL (cs : List Value) (o : Nat) : List Value → List Value
  | [] => cs
  | v :: vs => setL (cs.set o v) (o + 1) vs

theorem run_storeCells {P : Program} {M : Nat → Prop} {w0 : World} {g : Nat} {t : TypeId} {i : Nat} {o : Nat} : ∀ (vs : List Value) (rs : List Res) (cs : List Value) (w : World) (j : Nat), Held M w0 rs w → rs[i]? = some (rBlk g t cs) → o + j + vs.length ≤ cs.length → (∀ v ∈ vs, v.oneCell' = true) →
    ∃ w', (storeCells ⟨g, o, none⟩ vs j).run P w = .ok () w' ∧ Held M w0 (rs.set i (rBlk g t (setL cs (o + j) vs))) w'
  | [], rs, cs, w, j, h, hi, _, _ => ⟨w, by simp [storeCells], by
      have : rs.set i (rBlk g t (setL cs (o + j) [])) = rs := by
        apply List.ext_getElem?
        intro m
        by_cases e : i = m
        · subst e; rw [List.getElem?_set_self (List.getElem?_eq_some_iff.1 hi).1, hi]; rfl
        · rw [List.getElem?_set_ne e]
      rw [this]; exact h⟩
  | v :: vs, rs, cs, w, j, h, hi, hl, h1 => by
    rw [List.length_cons] at hl
    have hlt : o + j < cs.length := by omega
    have hB : Blk w g t cs.toArray := h.get hi
    have hc : w.cell? ⟨g, o + j, none⟩ = some cs[o + j] := by rw [hB.cell]; simp [hlt]
    have hf : w.frozen? ⟨g, o + j, none⟩ = false := hB.frozen _
    have h2 := h.set hi (o + j) v
    have hi' : (rs.set i (rBlk g t (cs.set (o + j) v)))[i]? = some (rBlk g t (cs.set (o + j) v)) := List.getElem?_set_self (List.getElem?_eq_some_iff.1 hi).1
    obtain ⟨w', e1, e2⟩ := run_storeCells (P := P) (o := o) vs _ (cs.set (o + j) v) _ (j + 1) h2 hi' (by rw [List.length_set]; omega) (fun u hu => h1 u (by simp [hu]))
    refine ⟨w', ?_, ?_⟩
    · have hv := h1 v (by simp)
      have hs : (Go.store ⟨g, o + j, none⟩ v).run P w = .ok () (w.setCell ⟨g, o + j, none⟩ v) := by
        cases v <;> first | (simp [Value.oneCell'] at hv; done) | simp [Go.store, Sem.run, hc, hf]
      simp only [storeCells, add_none, Sem.run_bind, hs, Result.andThen_ok, e1]
    · rw [List.set_set] at e2
      exact e2

theorem run_storeAt {P : Program} {M : Nat → Prop} {w0 : World} {g : Nat} {t tb : TypeId} {i o : Nat} {vs : List Value} {rs : List Res} {cs : List Value} {w : World} {v : Value} {agg : Bool} {zs : List Value} (ht : TV P t agg zs) (hv : v.cells = vs.toArray) (hz : vs.length = zs.length) (h : Held M w0 rs w) (hi : rs[i]? = some (rBlk g tb cs)) (hl : o + vs.length ≤ cs.length) (h1 : ∀ v ∈ vs, v.oneCell' = true) :
    ∃ w', (Instr.storeAt t (.pointer (some ⟨g, o, none⟩)) v).run P w = .ok () w' ∧ Held M w0 (rs.set i (rBlk g tb (setL cs o vs))) w' := by
  obtain ⟨ii, z, e1, _, e3, _⟩ := ht.info
  obtain ⟨w', h2, h3⟩ := run_storeCells (P := P) (o := o) vs rs cs w 0 h hi (by omega) h1
  refine ⟨w', ?_, h3⟩
  simp only [Instr.storeAt, Instr.sureAddr, storeVar, sizeOf, typeInfo, Sem.run_bind, Sem.run_pure, Result.andThen_ok, run_program, e1]
  simp [hv, h2, e3, hz]

/-- A store into a held block. -/
theorem st_store {P : Program} {ops : Array Oper} {Q : Exit → Act → World → Prop} {a : Act} {w : World} {K : Act → World → Prop} {n : Nat} {L : List (Nat × Value)} {M : Nat → Prop} {w0 : World} {rs : List Res} {t tb : TypeId} {agg : Bool} {zs : List Value} {x y : Operand} {g o : Nat} {v : Value} {vs cs : List Value} {ty : TypeId} {pos : String} {af : Array Edge} {gd : Option (Nat × Bool)} (i : Nat) (hE : Env n L a) (hH : Held M w0 rs w) (ht : TV P t agg zs) (hx : ev L x = some (.pointer (some ⟨g, o, none⟩))) (hy : ev L y = some v) (hv : v.cells = vs.toArray) (hz : vs.length = zs.length) (hi : rs[i]? = some (rBlk g tb cs)) (hl : Nat.ble (o + vs.length) cs.length = true) (h1 : ∀ v ∈ vs, v.oneCell' = true) (hw : Region.wanted ⟨none, .store t x y, ty, pos, af, gd⟩ (yielded ops a.tmps) = true)
    (k : ∀ w', Held M w0 (rs.set i (rBlk g tb (setL cs o vs))) w' → K a w') : Stp P ops Q ⟨none, .store t x y, ty, pos, af, gd⟩ a w K := by
  obtain ⟨w', h2, h3⟩ := run_storeAt (P := P) ht hv hz hH hi (Nat.le_of_ble_eq_true hl) h1
  refine st_skip hw ?_ rfl (k w' h3)
  simp only [execOp, hE.ev hx, hE.ev hy, Sem.run_bind, h2, Result.andThen_ok, Sem.run_pure]

/-- A row of elements: the cells of each, and the blocks that each owns. -/
def Vec {α : Type} (E : Enc α) (t : TypeId) (w : World) (S : Nat → Prop) (v : Value) (xs : List α) : Prop :=
  ∃ (css : List (List Value)) (T : Nat → Nat → Prop), css.length = xs.length ∧ w.ownsRow 0 t E.size v xs.length css.flatten ∧ (∀ b, v.ownBlock = some b → S b) ∧ (∀ i b, T i b → S b ∧ v.ownBlock ≠ some b) ∧ (∀ i j b, T i b → T j b → i = j) ∧
    ∀ (i : Nat) (x : α), xs[i]? = some x → ∃ es, css[i]? = some es ∧ E.O w (T i) es x

theorem ownsRow_keep {w w' : World} {base : Nat} {t : TypeId} {size : Nat} {v : Value} {n : Nat} {xs : List Value} (h : w.ownsRow base t size v n xs) (hk : ∀ b, v.ownBlock = some b → w'.heap[b]? = w.heap[b]?) : w'.ownsRow base t size v n xs := by
  refine ⟨h.1, ?_⟩
  rcases h.2 with h2 | ⟨g, cap, cur, rfl, hg, hh, r⟩
  · exact .inl h2
  · exact .inr ⟨g, cap, cur, rfl, hg, (hk g rfl).trans hh, r⟩

theorem Vec.keep {α : Type} {E : Enc α} {t : TypeId} {w w' : World} {S : Nat → Prop} {v : Value} {xs : List α} (h : Vec E t w S v xs) (hk : ∀ b, S b → w'.heap[b]? = w.heap[b]?) : Vec E t w' S v xs := by
  obtain ⟨css, T, h1, h2, h3, h4, h5, h6⟩ := h
  refine ⟨css, T, h1, ownsRow_keep h2 fun b hb => hk b (h3 b hb), h3, h4, h5, fun i x hx => ?_⟩
  obtain ⟨es, h7, h8⟩ := h6 i x hx
  exact ⟨es, h7, E.okeep h8 fun b hb => hk b (h4 i b hb).1⟩

def rVec {α : Type} (E : Enc α) (t : TypeId) (S : Nat → Prop) (A : Option Addr) (c : Nat) (xs : List α) : Res :=
  ⟨S, fun w => Vec E t w S (.slice A xs.length c) xs, fun _ _ h hv => hv.keep h⟩

theorem Held.vecNil {M : Nat → Prop} {w0 : World} {rs : List Res} {w : World} (h : Held M w0 rs w) {α : Type} (E : Enc α) (t : TypeId) : Held M w0 (rVec E t Nob none 0 [] :: rs) w :=
  h.new (Below.refl _ _) (rVec E t Nob none 0 []) ⟨[], fun _ _ => False, rfl, World.ownsRow_nil _ _ _ _, (fun b hb => by cases hb), fun _ _ h => h.elim, fun _ _ _ h => h.elim, fun i x hx => by simp at hx⟩ fun _ h => h.elim

/-- A block with the cells of flat elements is a row of them. -/
theorem Held.vecFlat {M : Nat → Prop} {w0 : World} {g : Nat} {t : TypeId} {rs : List Res} {w : World} {α : Type} {E : Enc α} {xs : List α} {css : List (List Value)} (h : Held M w0 (rBlk g t css.flatten :: rs) w) (hl : css.length = xs.length) (hm : xs.length ≤ maxLen) (hO : ∀ (i : Nat) (x : α), xs[i]? = some x → ∃ es, css[i]? = some es ∧ ∀ W, E.O W Nob es x) : Held M w0 (rVec E t (fun b => b = g) (some ⟨g, 0, none⟩) xs.length xs :: rs) w := by
  have hfl : css.flatten.length = xs.length * E.size := by
    have key : ∀ (css : List (List Value)) (xs : List α), css.length = xs.length → (∀ (i : Nat) (x : α), xs[i]? = some x → ∃ es, css[i]? = some es ∧ ∀ W, E.O W Nob es x) → css.flatten.length = xs.length * E.size := by
      intro css
      induction css with
      | nil => intro xs hl _; simp at hl; simp [hl.symm]
      | cons e css ih =>
        intro xs hl hO
        rcases xs with _ | ⟨x, xs⟩
        · simp at hl
        · obtain ⟨es, h1, h2⟩ := hO 0 x rfl
          simp at h1; subst h1
          rw [List.flatten_cons, List.length_append, ih xs (by simpa using hl) (fun i y hy => by simpa using hO (i + 1) y (by simpa using hy)), E.len (E.read (h2 default)), List.length_cons, Nat.succ_mul]; omega
    exact key css xs hl hO
  refine h.turn _ (fun hB => ⟨css, fun _ _ => False, hl, ⟨hfl, .inr ⟨g, xs.length, css.flatten.toArray, rfl, Nat.zero_le _, hB, Nat.le_refl _, hm, by simpa using hfl, ?_⟩⟩, (fun b hb => by simpa [Value.ownBlock] using hb.symm), fun _ _ h => h.elim, fun _ _ _ h => h.elim, fun i x hx => ?_⟩) fun _ hb => hb
  · rw [← hfl]; exact List.take_length
  · obtain ⟨es, h1, h2⟩ := hO i x hx
    exact ⟨es, h1, E.omore (h2 w) fun _ h => h.elim⟩

/-- A block with the cells of elements that own memory is a row of them. -/
theorem Held.vecLit {M : Nat → Prop} {w0 : World} {g : Nat} {t : TypeId} {rs : List Res} {w : World} {α : Type} {E : Enc α} {ps : List ((Nat → Prop) × List Value × α)} (h : Held M w0 (ps.map (fun p => rO E p.1 p.2.1 p.2.2) ++ rBlk g t (ps.map (fun p => p.2.1)).flatten :: rs) w) (hm : ps.length ≤ maxLen) :
    ∃ S, Held M w0 (rVec E t S (some ⟨g, 0, none⟩) ps.length (ps.map (fun p => p.2.2)) :: rs) w := by
  have hin : ∀ p ∈ ps, rO E p.1 p.2.1 p.2.2 ∈ ps.map (fun p => rO E p.1 p.2.1 p.2.2) ++ rBlk g t (ps.map (fun p => p.2.1)).flatten :: rs := fun p hp => List.mem_append_left _ (List.mem_map.2 ⟨p, hp, rfl⟩)
  have hO : ∀ p ∈ ps, E.O w p.1 p.2.1 p.2.2 := fun p hp => h.ok _ (hin p hp)
  have hB : Blk w g t (ps.map (fun p => p.2.1)).flatten.toArray := h.ok (rBlk g t (ps.map (fun (p : (Nat → Prop) × List Value × α) => p.2.1)).flatten) (by simp)
  have hfl : (ps.map (fun p => p.2.1)).flatten.length = ps.length * E.size := by
    have key : ∀ (qs : List ((Nat → Prop) × List Value × α)), (∀ p ∈ qs, p.2.1.length = E.size) → (qs.map (fun p => p.2.1)).flatten.length = qs.length * E.size := by
      intro qs
      induction qs with
      | nil => intro _; simp
      | cons q qs ih => intro hq; rw [List.map_cons, List.flatten_cons, List.length_append, ih fun p hp => hq p (by simp [hp]), hq q (by simp), List.length_cons, Nat.succ_mul]; omega
    exact key ps fun p hp => E.len (E.read (hO p hp))
  obtain ⟨sep1, sep2, sep3⟩ := List.pairwise_append.1 h.sep
  have sep4 := List.pairwise_cons.1 sep2
  refine ⟨fun b => b = g ∨ ∃ p ∈ ps, p.1 b, h.chg, ?_, ?_, ?_⟩
  · intro r hr
    rcases List.mem_cons.1 hr with rfl | hr
    · refine ⟨ps.map (fun p => p.2.1), fun i b => ∃ p, ps[i]? = some p ∧ p.1 b, by simp, ⟨by simpa using hfl, .inr ⟨g, ps.length, _, by simp, Nat.zero_le _, hB, by simp, hm, by simpa using hfl, by rw [List.length_map, ← hfl]; exact List.take_length⟩⟩, fun b hb => .inl (by simpa [Value.ownBlock] using hb.symm), ?_, ?_, ?_⟩
      · rintro i b ⟨p, hp, hb⟩
        refine ⟨.inr ⟨p, List.mem_of_getElem? hp, hb⟩, fun e => ?_⟩
        have e' : b = g := by simpa [Value.ownBlock] using e.symm
        exact sep3 _ (List.mem_map.2 ⟨p, List.mem_of_getElem? hp, rfl⟩) (rBlk g t (ps.map (fun p => p.2.1)).flatten) (by simp) b hb e'
      · rintro i j b ⟨p, hp, hb⟩ ⟨q, hq, hb'⟩
        rcases Nat.lt_trichotomy i j with hlt | rfl | hlt
        · exact absurd hb' (sep_at sep1 (i := i) (j := j) (by rw [List.getElem?_map, hp]; rfl) (by rw [List.getElem?_map, hq]; rfl) (by omega) b hb)
        · rfl
        · exact absurd hb' (sep_at sep1 (i := i) (j := j) (by rw [List.getElem?_map, hp]; rfl) (by rw [List.getElem?_map, hq]; rfl) (by omega) b hb)
      · intro i x hx
        rw [List.getElem?_map] at hx
        obtain ⟨p, hp, rfl⟩ := Option.map_eq_some_iff.1 hx
        exact ⟨p.2.1, by simp [hp], E.omore (hO p (List.mem_of_getElem? hp)) fun b hb => ⟨p, hp, hb⟩⟩
    · exact h.ok r (by simp [hr])
  · intro r hr b hb
    rcases List.mem_cons.1 hr with rfl | hr
    · rcases hb with rfl | ⟨p, hp, hb⟩
      · exact h.rng (rBlk b t (ps.map (fun p => p.2.1)).flatten) (by simp) b rfl
      · exact h.rng _ (hin p hp) b hb
    · exact h.rng r (by simp [hr]) b hb
  · refine List.pairwise_cons.2 ⟨fun r hr b hb hb' => ?_, sep4.2⟩
    rcases hb with rfl | ⟨p, hp, hb⟩
    · exact sep4.1 r hr b rfl hb'
    · exact sep3 _ (List.mem_map.2 ⟨p, hp, rfl⟩) r (by simp [hr]) b hb hb'

theorem flatten_at (s : Nat) : ∀ (css : List (List Value)), (∀ es ∈ css, es.length = s) → ∀ (i : Nat) (es : List Value), css[i]? = some es → ∀ j, j < s → css.flatten[i * s + j]? = es[j]?
  | [], _, i, es, hx, _, _ => by simp at hx
  | e :: css, h, 0, es, hx, j, hj => by
    simp at hx; subst hx
    rw [List.flatten_cons, Nat.zero_mul, Nat.zero_add, List.getElem?_append_left (by rw [h e (by simp)]; exact hj)]
  | e :: css, h, i + 1, es, hx, j, hj => by
    have hy := h e (by simp)
    rw [List.flatten_cons, Nat.succ_mul, List.getElem?_append_right (by rw [hy]; omega), hy, show i * s + s + j - s = i * s + j from by omega]
    exact flatten_at s css (fun z hz => h z (by simp [hz])) i es (by simpa using hx) j hj

theorem Vec.so {α : Type} {E : Enc α} {t : TypeId} {w : World} {S : Nat → Prop} {A : Option Addr} {c : Nat} {xs : List α} (h : Vec E t w S (.slice A xs.length c) xs) : So E w S A c xs := by
  obtain ⟨css, T, h1, h2, h3, h4, h5, h6⟩ := h
  rcases h2.2 with ⟨he, hn⟩ | ⟨g, cap, cur, he, hg, hh, hnc, hcm, hcs, htk⟩
  · have hx : xs = [] := List.eq_nil_of_length_eq_zero hn
    subst hx
    simp only [Value.slice.injEq] at he
    obtain ⟨rfl, _, rfl⟩ := he
    exact So.nil (Nat.zero_le _)
  · simp only [Value.slice.injEq, true_and] at he
    obtain ⟨rfl, rfl⟩ := he
    refine ⟨hnc, hcm, fun _ => ⟨g, 0, t, cur, T, rfl, h3 g rfl, hh, fun i k hk => ⟨(h4 i k hk).1, fun e => (h4 i k hk).2 (by rw [e]; rfl)⟩, h5, fun i x hx => ?_⟩⟩
    obtain ⟨es, h7, h8⟩ := h6 i x hx
    refine ⟨es, h8, fun j u hu => ?_⟩
    have hi := (List.getElem?_eq_some_iff.1 hx).1
    have hj := (List.getElem?_eq_some_iff.1 hu).1
    have hl : ∀ es ∈ css, es.length = E.size := fun es hes => by
      obtain ⟨m, hm, rfl⟩ := List.getElem_of_mem hes
      obtain ⟨es', h9, h10⟩ := h6 m xs[m] (List.getElem?_eq_getElem (by omega))
      rw [List.getElem?_eq_getElem hm] at h9
      simp at h9; rw [h9]; exact E.len (E.read h10)
    rw [hl es (List.mem_of_getElem? h7)] at hj
    have h9 := flatten_at E.size css hl i es h7 j hj
    rw [← htk] at h9
    have hlt : i * E.size + j < xs.length * E.size := by
      have : (i + 1) * E.size ≤ xs.length * E.size := Nat.mul_le_mul_right _ (by omega)
      rw [Nat.succ_mul] at this; omega
    rw [List.getElem?_take_of_lt hlt, Array.getElem?_toList] at h9
    rw [Nat.zero_add, h9]; exact hu

theorem Held.vecSo {M : Nat → Prop} {w0 : World} {rs : List Res} {w : World} {α : Type} {E : Enc α} {t : TypeId} {S : Nat → Prop} {A : Option Addr} {c : Nat} {xs : List α} (h : Held M w0 (rVec E t S A c xs :: rs) w) : Held M w0 (rSo E S A c xs :: rs) w :=
  h.turn _ (fun hv => oSl (Vec.so hv)) fun _ hb => hb

theorem Held.vecSl {M : Nat → Prop} {w0 : World} {rs : List Res} {w : World} {α : Type} {E : Enc α} {t : TypeId} {S : Nat → Prop} {A : Option Addr} {c : Nat} {xs : List α} (h : Held M w0 rs w) {i : Nat} (hi : rs[i]? = some (rVec E t S A c xs)) : Sl E w (Old w) A c xs :=
  (Vec.so (h.get hi)).sl.more fun b hb => (h.rng _ (List.mem_of_getElem? hi) b hb).2

theorem vec_shape {w : World} {base : Nat} {t : TypeId} {size : Nat} {v : Value} {n : Nat} {xs : List Value} (h : w.ownsRow base t size v n xs) : ∃ A c, v = .slice A n c := by
  rcases h.2 with ⟨rfl, rfl⟩ | ⟨g, cap, cur, rfl, _⟩
  · exact ⟨none, 0, rfl⟩
  · exact ⟨_, cap, rfl⟩

theorem grown_chg {w w' : World} {row : Option Nat} (h : w.grownBy w' row) : Chg (fun b => row = some b) w w' := ⟨h.os, h.tape, h.output, h.size, fun k hk hS => h.block k hk fun e => hS e.symm⟩

/-- Elements laid at ad, one after another, are appended; each with the blocks U that it owns. -/
theorem run_append_vec {P : Program} {M : Nat → Prop} {w0 : World} {rs : List Res} {w : World} {α : Type} {E : Enc α} {t e : TypeId} {bytes : Nat} {S U : Nat → Prop} {A : Option Addr} {c : Nat} {xs : List α} (he : TSl P t e E.size bytes) (ty : TypeId)
    (h : Held M w0 (rVec E e S A c xs :: rs) w) (ad : Addr) (ys : List α) (c2 : Nat) (dss : List (List Value)) (hl : dss.length = ys.length) (hcell : ∀ j u, dss.flatten[j]? = some u → w.cell? (ad.add j) = some u) (h1 : ∀ es ∈ dss, ∀ u ∈ es, u.oneCell' = true)
    (V : Nat → Nat → Prop) (hV : ∀ i b, V i b → U b) (hVd : ∀ i j b, V i b → V j b → i = j) (hO : ∀ (i : Nat) (y : α), ys[i]? = some y → ∃ es, dss[i]? = some es ∧ E.O w (V i) es y) (hU : ∀ b, U b → ¬ S b ∧ b < w.heap.size)
    (h63 : xs.length + ys.length ≤ maxLen) (hbytes : (xs.length + ys.length) * bytes ≤ 140737488355328) :
    ∃ A' c' S' w', (Builtin.append_ #[t, t] ty #[.slice A xs.length c, .slice (some ad) ys.length c2]).run P w = .ok (.slice A' (xs ++ ys).length c') w' ∧ Vec E e w' S' (.slice A' (xs ++ ys).length c') (xs ++ ys) ∧ Chg S w w' ∧ (∀ b, S' b → S b ∨ U b ∨ (w.heap.size ≤ b ∧ b < w'.heap.size)) := by
  obtain ⟨i, z, hi, hz0, hz1, hz2, hz3⟩ := he.info
  obtain ⟨css, T, k1, k2, k3, k4, k5, k6⟩ := h.ok _ (List.mem_cons_self)
  have hrng := h.rng _ (List.mem_cons_self)
  have hfl : dss.flatten.length = ys.length * E.size := by
    have key : ∀ (dss : List (List Value)) (ys : List α), dss.length = ys.length → (∀ (i : Nat) (y : α), ys[i]? = some y → ∃ es : List Value, dss[i]? = some es ∧ es.length = E.size) → dss.flatten.length = ys.length * E.size := by
      intro dss
      induction dss with
      | nil => intro ys hl _; simp at hl; simp [hl.symm]
      | cons e dss ih =>
        intro ys hl hO
        rcases ys with _ | ⟨y, ys⟩
        · simp at hl
        · obtain ⟨es, h1, h2⟩ := hO 0 y rfl
          simp at h1; subst h1
          rw [List.flatten_cons, List.length_append, ih ys (by simpa using hl) (fun i y hy => by simpa using hO (i + 1) y (by simpa using hy)), h2, List.length_cons, Nat.succ_mul]; omega
    exact key dss ys hl fun i y hy => by obtain ⟨es, h1, h2⟩ := hO i y hy; exact ⟨es, h1, E.len (E.read h2)⟩
  obtain ⟨v', w', e1, e2, e3, e4, e5⟩ := run_append_own_at (P := P) w 0 t ty e i z E.size bytes he.under hi hz0 hz1 hz2 hz3 E.pos _ xs.length css.flatten k2 ad ys.length c2 dss.flatten hfl hcell (fun u hu => by obtain ⟨es, h2, h3⟩ := List.mem_flatten.1 hu; exact h1 es h2 u h3) h63 hbytes (Nat.zero_le _)
  obtain ⟨A', c', rfl⟩ := vec_shape e2
  have hch := grown_chg e3
  refine ⟨A', c', fun b => S b ∨ U b ∨ (w.heap.size ≤ b ∧ b < w'.heap.size), w', by rw [List.length_append]; exact e1, ?_, hch.mono (fun b hb => k3 b hb), fun b hb => hb⟩
  have hnew : ∀ b, (Value.slice A' (xs.length + ys.length) c').ownBlock = some b → (Value.slice A xs.length c).ownBlock = some b ∨ (w.heap.size ≤ b ∧ b < w'.heap.size) := by
    intro b hb
    rcases e5 with e5 | e5
    · left; rw [← e5]; exact hb
    · right
      have hb2 : b = w.heap.size := by rw [e5] at hb; exact (Option.some.inj hb).symm
      rcases e2.2 with ⟨q, _⟩ | ⟨g, cap, cur, q, _, hh, _⟩
      · rw [q] at hb; cases hb
      · rw [q] at hb
        have : g = b := by simpa [Value.ownBlock] using hb
        subst this
        exact ⟨by omega, Blk.lt (t := e) (cur := cur) hh⟩
  rw [List.length_append]
  refine ⟨css ++ dss, fun i b => (i < xs.length ∧ T i b) ∨ (xs.length ≤ i ∧ V (i - xs.length) b), by simp [k1, hl], by rw [List.flatten_append, List.length_append]; exact e2, fun b hb => ?_, fun i b hb => ?_, fun i j b hi hj => ?_, fun m x hx => ?_⟩
  · rcases hnew b hb with hb | hb
    · exact .inl (k3 b hb)
    · exact .inr (.inr hb)
  · rcases hb with ⟨_, hb⟩ | ⟨_, hb⟩
    · refine ⟨.inl (k4 i b hb).1, fun hb' => ?_⟩
      rcases hnew b hb' with q | q
      · exact (k4 i b hb).2 q
      · have := (hrng b (k4 i b hb).1).2; omega
    · refine ⟨.inr (.inl (hV _ b hb)), fun hb' => ?_⟩
      rcases hnew b hb' with q | q
      · exact (hU b (hV _ b hb)).1 (k3 b q)
      · have := (hU b (hV _ b hb)).2; omega
  · rcases hi with ⟨hi1, hi⟩ | ⟨hi1, hi⟩ <;> rcases hj with ⟨hj1, hj⟩ | ⟨hj1, hj⟩
    · exact k5 i j b hi hj
    · exact absurd (k4 i b hi).1 (hU b (hV _ b hj)).1
    · exact absurd (k4 j b hj).1 (hU b (hV _ b hi)).1
    · have := hVd _ _ b hi hj; omega
  · by_cases hm : m < xs.length
    · rw [List.getElem?_append_left hm] at hx
      obtain ⟨es, h2, h3⟩ := k6 m x hx
      refine ⟨es, by rw [List.getElem?_append_left (by omega)]; exact h2, E.omore (E.okeep h3 fun b hb => ?_) fun b hb => .inl ⟨hm, hb⟩⟩
      exact hch.block b (hrng b (k4 m b hb).1).2 fun q => (k4 m b hb).2 q
    · rw [List.getElem?_append_right (by omega)] at hx
      obtain ⟨es, h2, h3⟩ := hO _ x hx
      refine ⟨es, by rw [List.getElem?_append_right (by omega), k1]; exact h2, E.omore (E.okeep h3 fun b hb => ?_) fun b hb => .inr ⟨by omega, hb⟩⟩
      exact hch.block b (hU b (hV _ b hb)).2 fun q => (hU b (hV _ b hb)).1 (k3 b q)

theorem Held.mut2 {M : Nat → Prop} {w0 : World} {r s : Res} {rs : List Res} {w w' : World} (h : Held M w0 (r :: s :: rs) w) (hc : Chg r.S w w') (r' : Res) (hr : r'.φ w') (hS : ∀ b, r'.S b → r.S b ∨ s.S b ∨ (w.heap.size ≤ b ∧ b < w'.heap.size)) : Held M w0 (r' :: rs) w' := by
  have h1 : Held M w0 (⟨fun b => r.S b ∨ s.S b, fun _ => True, fun _ _ _ _ => trivial⟩ :: rs) w := h.join ⟨fun b => r.S b ∨ s.S b, fun _ => True, fun _ _ _ _ => trivial⟩ (fun _ _ _ => trivial) fun _ hb => hb
  have h2 := h1.mut (i := 0) rfl (hc.mono fun b hb => .inl hb) r' hr fun b hb => by
    rcases hS b hb with q | q | q
    · exact .inl (.inl q)
    · exact .inl (.inr q)
    · exact .inr q
  exact h2

/-- One flat element is appended. -/
theorem st_app1F {P : Program} {ops : Array Oper} {Q : Exit → Act → World → Prop} {a : Act} {w : World} {K : Act → World → Prop} {n d : Nat} {L : List (Nat × Value)} {M : Nat → Prop} {w0 : World} {rs rs' : List Res} {α : Type} {E : Enc α} {t e : TypeId} {bytes : Nat} {S : Nat → Prop} {A : Option Addr} {c g : Nat} {xs : List α} {es : List Value} {x1 x2 : Operand} {ty : TypeId} {pos : String} {af : Array Edge} {gd : Option (Nat × Bool)} (y : α) (hE : Env n L a) (hH : Held M w0 rs w) (he : TSl P t e E.size bytes) (is : List Nat) (hn1 : is.Nodup) (his : pick rs is = some (rVec E e S A c xs :: rBlk g e es :: rs')) (hO : ∀ W, E.O W Nob es y)
    (hx1 : ev L x1 = some (.slice A xs.length c)) (hx2 : ev L x2 = some (.slice (some ⟨g, 0, none⟩) 1 1)) (h1 : ∀ u ∈ es, u.oneCell' = true) (h63 : xs.length + 1 ≤ maxLen) (hbytes : (xs.length + 1) * bytes ≤ 140737488355328) (hw : Region.wanted ⟨some d, .call { callee := .builtin .append, args := #[x1, x2], argTypes := #[t, t] }, ty, pos, af, gd⟩ (yielded ops a.tmps) = true) (hn : Nat.blt d n = true)
    (k : ∀ A' c' S' a' w', Env n ((d, .slice A' (xs ++ [y]).length c') :: L) a' → Held M w0 (rVec E e S' A' c' (xs ++ [y]) :: rs') w' → K a' w') : Stp P ops Q ⟨some d, .call { callee := .builtin .append, args := #[x1, x2], argTypes := #[t, t] }, ty, pos, af, gd⟩ a w K := by
  have h := hH.sel is hn1 his
  have hB : Blk w g e es.toArray := h.ok (rBlk g e es) (by simp)
  obtain ⟨A', c', S', w', e1, e2, e3, e4⟩ := run_append_vec (U := Nob) he ty h ⟨g, 0, none⟩ [y] 1 [es] rfl (fun j u hu => by rw [add_none, Nat.zero_add, hB.cell]; simpa using hu) (by simpa using h1)
    (fun _ _ => False) (fun i b hb => hb.elim) (fun i j b hi hj => hi.elim) (fun i z hz => by
      rcases i with _ | i
      · simp at hz; subst hz; exact ⟨es, rfl, hO w⟩
      · simp at hz) (fun b hb => hb.elim) h63 hbytes
  have h2 : Held M w0 (rVec E e S' A' c' (xs ++ [y]) :: rs') w' := h.mut2 e3 (rVec E e S' A' c' (xs ++ [y])) e2 (fun b hb => by
    rcases e4 b hb with q | q | q
    · exact .inl q
    · exact q.elim
    · exact .inr (.inr q))
  refine st_val hE hw ?_ rfl hn fun a' hE' => k A' c' S' a' w' hE' h2
  simp only [List.length_singleton] at e1
  simp only [execOp, resolve, invoke, builtin, Sem.run_bind, Sem.run_pure, Result.andThen_ok, List.map_toArray, List.map_cons, List.map_nil, hE.ev hx1, hE.ev hx2, e1]

abbrev tFraction : Type := Int × Int

abbrev tRule : Type := Int × Int × Int

abbrev eRule : Enc tRule := (ePr eInt (ePr eInt eInt))

theorem shape_Rule {w : World} {S : Nat → Prop} {es : List Value} {x : tRule} (h : eRule.R w S es x) : es = [.int .i64 x.1, .int .i64 x.2.1, .int .i64 x.2.2] ∧ I64 x.1 ∧ I64 x.2.1 ∧ I64 x.2.2 := by
  obtain ⟨_, _, rfl, ⟨rfl, h0⟩, ⟨_, _, rfl, ⟨rfl, h1⟩, ⟨rfl, h2⟩⟩⟩ := h
  exact ⟨rfl, h0, h1, h2⟩

abbrev tMachine : Type := Int × Int × (List tRule)

abbrev eMachine : Enc tMachine := (ePr eInt (ePr eInt (eSl eRule)))

theorem shape_Machine {w : World} {S : Nat → Prop} {es : List Value} {x : tMachine} (h : eMachine.R w S es x) : ∃ A2 c2, es = [.int .i64 x.1, .int .i64 x.2.1, .slice A2 x.2.2.length c2] ∧ I64 x.1 ∧ I64 x.2.1 ∧ Sl eRule w S A2 c2 x.2.2 := by
  obtain ⟨_, _, rfl, ⟨rfl, h0⟩, ⟨_, _, rfl, ⟨rfl, h1⟩, ⟨A2, c2, rfl, h2⟩⟩⟩ := h
  exact ⟨A2, c2, rfl, h0, h1, h2⟩

theorem rep_Machine {w : World} {S : Nat → Prop} {x : tMachine} {A2 : Option Addr} {c2 : Nat} (h0 : I64 x.1) (h1 : I64 x.2.1) (h2 : Sl eRule w S A2 c2 x.2.2) : eMachine.R w S [.int .i64 x.1, .int .i64 x.2.1, .slice A2 x.2.2.length c2] x := ⟨[_], _, rfl, ⟨rfl, h0⟩, ⟨[_], _, rfl, ⟨rfl, h1⟩, ⟨_, _, rfl, h2⟩⟩⟩

theorem any_hit {α : Type} {p : α → Bool} {xs : List α} {k : Nat} (hk : k < xs.length) (h : p xs[k] = true) : xs.any p = true :=
  List.any_eq_true.2 ⟨_, List.getElem_mem hk, h⟩

theorem any_step {α : Type} {p : α → Bool} {xs : List α} {k : Nat} (hk : k < xs.length) (h0 : (xs.take k).any p = false) (h : p xs[k] = false) : (xs.take (k + 1)).any p = false := by
  rw [List.take_succ_eq_append_getElem hk, List.any_append, h0]; simp [h]

/-- Equality of two lists, element by element. -/
def eqL {α : Type} (p : α → α → Bool) : List α → List α → Bool
  | [], [] => true
  | x :: xs, y :: ys => p x y && eqL p xs ys
  | _, _ => false

theorem eqL_refl {α : Type} {p : α → α → Bool} (hp : ∀ x, p x x = true) : ∀ xs : List α, eqL p xs xs = true
  | [] => rfl
  | x :: xs => by rw [eqL, hp, eqL_refl hp xs]; rfl

theorem eqL_len {α : Type} {p : α → α → Bool} : ∀ (xs ys : List α), xs.length ≠ ys.length → eqL p xs ys = false
  | [], [], h => absurd rfl h
  | [], _ :: _, _ => rfl
  | _ :: _, [], _ => rfl
  | x :: xs, y :: ys, h => by rw [eqL, eqL_len xs ys (by simpa using h)]; simp

theorem eqL_get {α : Type} {p : α → α → Bool} : ∀ (xs ys : List α) (k : Nat) (h1 : k < xs.length) (h2 : k < ys.length), p xs[k] ys[k] = false → eqL p xs ys = false
  | x :: xs, y :: ys, 0, _, _, h => by rw [eqL]; simp at h; rw [h]; rfl
  | x :: xs, y :: ys, k + 1, h1, h2, h => by rw [eqL, eqL_get xs ys k (by simpa using h1) (by simpa using h2) (by simpa using h)]; simp

theorem eqL_all {α : Type} {p : α → α → Bool} : ∀ (xs ys : List α), xs.length = ys.length → (∀ k (h1 : k < xs.length) (h2 : k < ys.length), p xs[k] ys[k] = true) → eqL p xs ys = true
  | [], [], _, _ => rfl
  | x :: xs, y :: ys, hl, h => by
    have e : p x y = true := h 0 (Nat.zero_lt_succ _) (Nat.zero_lt_succ _)
    have e' : eqL p xs ys = true := eqL_all xs ys (by simpa using hl) fun k h1 h2 => h (k + 1) (Nat.succ_lt_succ h1) (Nat.succ_lt_succ h2)
    rw [eqL, e, e']; rfl
  | [], _ :: _, hl, _ => by simp at hl
  | _ :: _, [], hl, _ => by simp at hl

theorem ret_int {k : IntKind} {a b : Int} (h : a = b) : Ending.returned (.int k a) = .returned (.int k b) := by rw [h]

def withinB (n lo hi : Int) : Bool := decide (lo ≤ n) && decide (n ≤ hi)

theorem withinB_true {n lo hi : Int} : withinB n lo hi = true ↔ lo ≤ n ∧ n ≤ hi := by
  unfold withinB; simp

theorem impl_within (n lo hi : Int) (w : World) :
    Calls Tryz.prog 25 #[.int .i64 n, .int .i64 lo, .int .i64 hi] w fun e w' => e = .returned (.bool (withinB n lo hi)) ∧ w = w' := by
  unfold withinB
  by_cases h1 : lo ≤ n
  · go_enter Tryz.func25, Tryz.ntmps25
    go_wp2
    go_ret
    exact ⟨by first | (simp; done) | simp [h1], rfl⟩
  · have h2 : decide (lo ≤ n) = false := by simpa using h1
    go_enter Tryz.func25, Tryz.ntmps25
    go_wp2
    go_ret
    exact ⟨by first | (simp; done) | simp [h2], rfl⟩

theorem spec_l00In (n lo hi : Int) (w : World) :
    Calls Tryz.prog 37 #[.int .i64 n, .int .i64 lo, .int .i64 hi] w fun e w' => e = .returned (.bool (withinB n lo hi)) ∧ w = w' := by
  unfold withinB
  by_cases h1 : lo ≤ n
  · go_enter Tryz.func37, Tryz.ntmps37
    go_wp2
    go_ret
    exact ⟨by first | (simp; done) | simp [h1], rfl⟩
  · have h2 : decide (lo ≤ n) = false := by simpa using h1
    go_enter Tryz.func37, Tryz.ntmps37
    go_wp2
    go_ret
    exact ⟨by first | (simp; done) | simp [h2], rfl⟩

theorem impl_size_Rule (a : Option Addr) (n c : Nat) (w : World) :
    Calls Tryz.prog 26 #[.slice a n c] w fun e w' => e = .returned (.int .i64 n) ∧ w = w' := by
  go_enter Tryz.func26, Tryz.ntmps26
  go_wp2
  go_ret
  exact ⟨rfl, rfl⟩

set_option maxHeartbeats 400000 in
theorem IndexFunc_Rule (p : tRule → Bool) (g : Nat) (lb : Array Value) (A : Option Addr) (c : Nat) (xs : List tRule) (w : World) (h : Sl eRule w (Old w) A c xs)
    (eg : ∀ args w, (callFunc g args).run Tryz.prog w = .ok (.enter g args) w) (hp : ∀ W x es, x ∈ xs → Below w.heap.size w W → eRule.R W (Old W) es x → Calls Tryz.prog g (#[.agg es.toArray] ++ lb) W fun e w' => e = .returned (.bool (p x)) ∧ Below W.heap.size W w') :
    Calls Tryz.prog 49 #[.slice A xs.length c, .func (.func g) #[] lb] w fun e w' => (∃ r : Int, e = .returned (.int .i64 r) ∧ decide (0 ≤ r) = xs.any p) ∧ Below w.heap.size w w' := by
  have hlen := h.len
  have H := Lib.hid h; clear h
  have HP := Lib.hid hp; clear hp
  go_enter Tryz.func49, Tryz.ntmps49
  go_wp2
  go_loopg [5, 8] xs.length (fun gg _ s8 wr => ∃ k : Nat, k ≤ xs.length ∧ xs.length - k ≤ gg ∧ s8 = .int .i64 k ∧ Hid (Below w.heap.size w wr) ∧ Hid ((xs.take k).any p = false))
  case atStart => exact ⟨0, Nat.zero_le _, by omega, rfl, Below.refl _ w, rfl⟩
  case round =>
    obtain ⟨k, hk, hg, rfl, BW, HN⟩ := hrel
    by_cases hlt : k < xs.length
    · have hltz : (k : Int) < (xs.length : Int) := by omega
      obtain ⟨b, off, es, rfl, hb, hR, hc⟩ := H.out.at hlt
      have hcall := HP.out wr xs[k] _ (List.getElem_mem hlt) BW.out (eRule.on hR BW.out)
      obtain ⟨rfl, gq0, gq1, gq2⟩ := shape_Rule hR
      have d0 : wr.cell? ⟨b, off + k * 3, none⟩ = some (.int .i64 xs[k].1) := (below_olds BW.out _ hb).trans (hc 0 _ rfl)
      have d1 : wr.cell? ⟨b, off + k * 3 + 1, none⟩ = some (.int .i64 xs[k].2.1) := (below_olds BW.out _ hb).trans (hc 1 _ rfl)
      have d2 : wr.cell? ⟨b, off + k * 3 + 2, none⟩ = some (.int .i64 xs[k].2.2) := (below_olds BW.out _ hb).trans (hc 2 _ rfl)
      clear hc gq0 gq1 gq2
      try clear hR
      have HQ1 : Hid (p xs[k] = true → xs.any p = true) := any_hit hlt
      have HQ0 : Hid (p xs[k] = false → (xs.take (k + 1)).any p = false) := any_step hlt HN.out
      generalize xs[k] = y at d0 d1 d2 hcall HQ1 HQ0
      cases hq : p y with
      | true =>
        rw [hq] at hcall
        have HQ := Lib.hid (HQ1.out hq); clear hq HQ1 HQ0
        go_wp2_with (go_at_fn g; refine hcall.mono ?_; rintro e w' ⟨rfl, hb'⟩)
        go_ret
        exact ⟨⟨k, rfl, by rw [HQ.out]; simp⟩, below_trans BW.out hb'⟩
      | false =>
        rw [hq] at hcall
        have HQ := Lib.hid (HQ0.out hq); clear hq HQ1 HQ0
        go_wp2_with (go_at_fn g; refine hcall.mono ?_; rintro e w' ⟨rfl, hb'⟩)
        go_roundg (xs.length - (k + 1))
        case measure => omega
        case rel => exact ⟨k + 1, by omega, by omega, by go_num, below_trans BW.out hb', HQ.out⟩
    · have hltz : ¬ (k : Int) < (xs.length : Int) := by omega
      obtain rfl : k = xs.length := by omega
      go_wp2
      go_ret
      refine ⟨⟨-1, rfl, ?_⟩, BW.out⟩
      have := HN.out
      rw [List.take_length] at this
      rw [this]; rfl

theorem ContainsFunc_Rule (p : tRule → Bool) (g : Nat) (lb : Array Value) (A : Option Addr) (c : Nat) (xs : List tRule) (w : World) (h : Sl eRule w (Old w) A c xs)
    (eg : ∀ args w, (callFunc g args).run Tryz.prog w = .ok (.enter g args) w) (hp : ∀ W x es, x ∈ xs → Below w.heap.size w W → eRule.R W (Old W) es x → Calls Tryz.prog g (#[.agg es.toArray] ++ lb) W fun e w' => e = .returned (.bool (p x)) ∧ Below W.heap.size W w') :
    Calls Tryz.prog 27 #[.slice A xs.length c, .func (.func g) #[] lb] w fun e w' => e = .returned (.bool (xs.any p)) ∧ Below w.heap.size w w' := by
  have hI := Lib.hid (IndexFunc_Rule p g lb A c xs w h eg hp); clear h hp eg
  go_enter Tryz.func27, Tryz.ntmps27
  go_wp2_with (go_at_call 49; refine hI.out.mono ?_; rintro e w' ⟨⟨r, rfl, hr⟩, hb⟩; have HR := Lib.hid hr; clear hr)
  go_ret
  exact ⟨by rw [← HR.out]; rfl, hb⟩

theorem costL_take {α : Type} (f : α → Nat) (xs : List α) (k : Nat) (h : k < xs.length) : ((xs.take (k + 1)).map f).sum = ((xs.take k).map f).sum + f xs[k] := by
  rw [List.take_succ_eq_append_getElem h, List.map_append, List.sum_append]; simp only [List.map_cons, List.map_nil, List.sum_cons, List.sum_nil, Nat.add_zero]

theorem cost_le {α : Type} (f : α → Nat) (xs : List α) (k : Nat) : ((xs.take k).map f).sum ≤ (xs.map f).sum := by
  have h : (xs.map f).sum = ((xs.take k).map f).sum + ((xs.drop k).map f).sum := by
    rw [← List.sum_append, ← List.map_append, List.take_append_drop]
  omega

/-- What the size functions of the laws answer. -/
def left (l : Int) (n : Nat) : Int := if l - n < 0 then -1 else l - n

def eq_i (x y : Int) : Bool := x == y

theorem eq_i_refl (x : Int) : eq_i x x = true := by simp [eq_i]

def eq_Rule (x y : tRule) : Bool := eq_i x.1 y.1 && eq_i x.2.1 y.2.1 && eq_i x.2.2 y.2.2

theorem eq_Rule_refl (x : tRule) : eq_Rule x x = true := by unfold eq_Rule; simp [eq_i_refl]

def eq_SRule (x y : List tRule) : Bool := eqL eq_Rule x y

theorem eq_SRule_refl (x : List tRule) : eq_SRule x x = true := eqL_refl eq_Rule_refl x

def eq_Machine (x y : tMachine) : Bool := eq_i x.1 y.1 && eq_i x.2.1 y.2.1 && eq_SRule x.2.2 y.2.2

theorem eq_Machine_refl (x : tMachine) : eq_Machine x x = true := by unfold eq_Machine; simp [eq_SRule_refl, eq_i_refl]

set_option maxHeartbeats 1000000 in
theorem eq_Rule_c (es es' : List Value) (x y : tRule) (w : World) (h : eRule.R w (Old w) es x) (h' : eRule.R w (Old w) es' y) :
    Calls Tryz.prog 33 #[.agg es.toArray, .agg es'.toArray] w fun e w' => e = .returned (.bool (eq_Rule x y)) ∧ Below w.heap.size w w' := by
  obtain ⟨rfl, gx0, gx1, gx2⟩ := shape_Rule h
  obtain ⟨rfl, gy0, gy1, gy2⟩ := shape_Rule h'
  have HB0 := Lib.hid (((Below.refl w.heap.size w).alloc (Nat.le_refl _) (.cells #[.int .i64 x.1, .int .i64 x.2.1, .int .i64 x.2.2] 34)).alloc (by simp) (.cells #[.int .i64 y.1, .int .i64 y.2.1, .int .i64 y.2.2] 34))
  clear gx0 gy0 gx1 gy1 gx2 gy2
  cases t0 : eq_i x.1 y.1
  · rw [show eq_Rule x y = false from by unfold eq_Rule; simp [t0]]
    have t0' : (x.1 != y.1) = true := by simp only [eq_i] at t0; simp [bne, t0]
    go_enter Tryz.func33, Tryz.ntmps33
    go_wp2
    go_ret
    exact ⟨rfl, HB0.out⟩
  have t0' : (x.1 != y.1) = false := by simp only [eq_i] at t0; simp [bne, t0]
  cases t1 : eq_i x.2.1 y.2.1
  · rw [show eq_Rule x y = false from by unfold eq_Rule; simp [t0, t1]]
    have t1' : (x.2.1 != y.2.1) = true := by simp only [eq_i] at t1; simp [bne, t1]
    go_enter Tryz.func33, Tryz.ntmps33
    go_wp2
    go_ret
    exact ⟨rfl, HB0.out⟩
  have t1' : (x.2.1 != y.2.1) = false := by simp only [eq_i] at t1; simp [bne, t1]
  cases t2 : eq_i x.2.2 y.2.2
  · rw [show eq_Rule x y = false from by unfold eq_Rule; simp [t0, t1, t2]]
    have t2' : (x.2.2 != y.2.2) = true := by simp only [eq_i] at t2; simp [bne, t2]
    go_enter Tryz.func33, Tryz.ntmps33
    go_wp2
    go_ret
    exact ⟨rfl, HB0.out⟩
  have t2' : (x.2.2 != y.2.2) = false := by simp only [eq_i] at t2; simp [bne, t2]
  rw [show eq_Rule x y = true from by unfold eq_Rule; simp [t0, t1, t2]]
  go_enter Tryz.func33, Tryz.ntmps33
  go_wp2
  go_ret
  exact ⟨rfl, HB0.out⟩

set_option maxRecDepth 100000 in
set_option maxHeartbeats 1000000 in
theorem eq_SRule_c (A A' : Option Addr) (c c' : Nat) (xs ys : List tRule) (w : World) (h : Sl eRule w (Old w) A c xs) (h' : Sl eRule w (Old w) A' c' ys) :
    Calls Tryz.prog 15 #[.slice A xs.length c, .slice A' ys.length c'] w fun e w' => e = .returned (.bool (eq_SRule xs ys)) ∧ Below w.heap.size w w' := by
  have hlen := h.len
  have hlen' := h'.len
  unfold eq_SRule
  by_cases hne : xs.length = ys.length
  · have hne' : ((xs.length : Int) != (ys.length : Int)) = false := by simp [hne]
    have HE := Lib.hid hne; clear hne
    have H := Lib.hid h; clear h
    have H' := Lib.hid h'; clear h'
    go_enter Tryz.func15, Tryz.ntmps15
    go_wp2
    clear hne'
    go_loopw [5] (fun s5 wr => ∃ k : Nat, k ≤ xs.length ∧ s5 = .int .i64 k ∧ Hid (Below w.heap.size w wr) ∧ Hid (∀ j (h1 : j < xs.length) (h2 : j < ys.length), j < k → eq_Rule xs[j] ys[j] = true)) (fun s5 _ => xs.length - (intOf s5).toNat)
    case atStart => exact ⟨0, Nat.zero_le _, rfl, Below.refl _ _, fun j _ _ h => absurd h (Nat.not_lt_zero _)⟩
    case round =>
      obtain ⟨k, hk, rfl, HL, HN⟩ := hrel
      by_cases hlt : k < xs.length
      · have hltz : (k : Int) < (xs.length : Int) := by omega
        have hlt' : k < ys.length := by have := HE.out; omega
        have hltz' : (k : Int) < (ys.length : Int) := by omega
        obtain ⟨bp, offp, esp, rfl, hbp, hR, hc⟩ := H.out.at hlt
        have HRp := Lib.hid (eRule.on hR HL.out)
        obtain ⟨rfl, gp0, gp1, gp2⟩ := shape_Rule hR
        have dp0 : wr.cell? ⟨bp, offp + k * 3, none⟩ = some (.int .i64 xs[k].1) := (below_olds HL.out _ hbp).trans (hc 0 _ rfl)
        have dp1 : wr.cell? ⟨bp, offp + k * 3 + 1, none⟩ = some (.int .i64 xs[k].2.1) := (below_olds HL.out _ hbp).trans (hc 1 _ rfl)
        have dp2 : wr.cell? ⟨bp, offp + k * 3 + 2, none⟩ = some (.int .i64 xs[k].2.2) := (below_olds HL.out _ hbp).trans (hc 2 _ rfl)
        clear hc gp0 gp1 gp2
        try clear hR
        obtain ⟨bq, offq, esq, rfl, hbq, hR, hc⟩ := H'.out.at hlt'
        have HRq := Lib.hid (eRule.on hR HL.out)
        obtain ⟨rfl, gq0, gq1, gq2⟩ := shape_Rule hR
        have dq0 : wr.cell? ⟨bq, offq + k * 3, none⟩ = some (.int .i64 ys[k].1) := (below_olds HL.out _ hbq).trans (hc 0 _ rfl)
        have dq1 : wr.cell? ⟨bq, offq + k * 3 + 1, none⟩ = some (.int .i64 ys[k].2.1) := (below_olds HL.out _ hbq).trans (hc 1 _ rfl)
        have dq2 : wr.cell? ⟨bq, offq + k * 3 + 2, none⟩ = some (.int .i64 ys[k].2.2) := (below_olds HL.out _ hbq).trans (hc 2 _ rfl)
        clear hc gq0 gq1 gq2
        try clear hR
        have HQ0 : Hid (eq_Rule xs[k] ys[k] = false → eqL eq_Rule xs ys = false) := eqL_get xs ys k hlt hlt'
        have HQ1 : Hid (eq_Rule xs[k] ys[k] = true → ∀ j (h1 : j < xs.length) (h2 : j < ys.length), j < k + 1 → eq_Rule xs[j] ys[j] = true) := fun e j h1 h2 hj => by
          by_cases ej : j = k
          · subst ej; exact e
          · exact HN.out j h1 h2 (by omega)
        generalize xs[k] = x at dp0 dp1 dp2 HRp HQ0 HQ1
        generalize ys[k] = y at dq0 dq1 dq2 HRq HQ0 HQ1
        go_wp2_with fail
        go_still_tail 8, (by kernel_rfl)
        cases hq : eq_Rule x y
        · go_wp2_with fail
          refine (eq_Rule_c _ _ x y _ (eRule.on HRp.out (Below.refl _ _).drew) (eRule.on HRq.out (Below.refl _ _).drew)).mono ?_
          rintro e w2 ⟨rfl, hb2⟩
          rw [hq]
          go_wp2
          go_ret
          exact ⟨by rw [HQ0.out hq]; rfl, HL.out.drew.trans (hb2.mono HL.out.size)⟩
        · go_wp2_with fail
          refine (eq_Rule_c _ _ x y _ (eRule.on HRp.out (Below.refl _ _).drew) (eRule.on HRq.out (Below.refl _ _).drew)).mono ?_
          rintro e w2 ⟨rfl, hb2⟩
          rw [hq]
          go_wp2
          go_roundw
          case rel => exact ⟨k + 1, by omega, by go_num, HL.out.drew.trans (hb2.mono HL.out.size), HQ1.out hq⟩
          case measure => simp [intOf]; omega
      · have hltz : ¬ (k : Int) < (xs.length : Int) := by omega
        obtain rfl : k = xs.length := by omega
        go_wp2
        go_ret
        exact ⟨by rw [eqL_all xs ys HE.out fun j h1 h2 => HN.out j h1 h2 h1]; rfl, HL.out⟩
  · have hne' : ((xs.length : Int) != (ys.length : Int)) = true := by simp; omega
    rw [eqL_len xs ys hne]
    clear h h' hne
    go_enter Tryz.func15, Tryz.ntmps15
    go_wp2
    go_ret
    exact ⟨rfl, Below.refl _ _⟩

set_option maxHeartbeats 1000000 in
theorem eq_Machine_c (es es' : List Value) (x y : tMachine) (w : World) (h : eMachine.R w (Old w) es x) (h' : eMachine.R w (Old w) es' y) :
    Calls Tryz.prog 6 #[.agg es.toArray, .agg es'.toArray] w fun e w' => e = .returned (.bool (eq_Machine x y)) ∧ Below w.heap.size w w' := by
  obtain ⟨Ax2, cx2, rfl, gx0, gx1, gx2⟩ := shape_Machine h
  obtain ⟨Ay2, cy2, rfl, gy0, gy1, gy2⟩ := shape_Machine h'
  have HB0 := Lib.hid (((Below.refl w.heap.size w).alloc (Nat.le_refl _) (.cells #[.int .i64 x.1, .int .i64 x.2.1, .slice Ax2 x.2.2.length cx2] 24)).alloc (by simp) (.cells #[.int .i64 y.1, .int .i64 y.2.1, .slice Ay2 y.2.2.length cy2] 24))
  have HX2 := Lib.hid (gx2.on HB0.out); clear gx2
  have HY2 := Lib.hid (gy2.on HB0.out); clear gy2
  clear gx0 gy0 gx1 gy1
  cases t0 : eq_i x.1 y.1
  · rw [show eq_Machine x y = false from by unfold eq_Machine; simp [t0]]
    have t0' : (x.1 != y.1) = true := by simp only [eq_i] at t0; simp [bne, t0]
    go_enter Tryz.func6, Tryz.ntmps6
    go_wp2
    go_ret
    exact ⟨rfl, HB0.out⟩
  have t0' : (x.1 != y.1) = false := by simp only [eq_i] at t0; simp [bne, t0]
  cases t1 : eq_i x.2.1 y.2.1
  · rw [show eq_Machine x y = false from by unfold eq_Machine; simp [t0, t1]]
    have t1' : (x.2.1 != y.2.1) = true := by simp only [eq_i] at t1; simp [bne, t1]
    go_enter Tryz.func6, Tryz.ntmps6
    go_wp2
    go_ret
    exact ⟨rfl, HB0.out⟩
  have t1' : (x.2.1 != y.2.1) = false := by simp only [eq_i] at t1; simp [bne, t1]
  cases t2 : eq_SRule x.2.2 y.2.2
  · rw [show eq_Machine x y = false from by unfold eq_Machine; simp [t0, t1, t2]]
    go_enter Tryz.func6, Tryz.ntmps6
    go_wp2_with fail
    refine (eq_SRule_c _ _ _ _ x.2.2 y.2.2 _ HX2.out HY2.out).mono ?_
    rintro e w1 ⟨rfl, hb⟩
    rw [t2]
    have HB1 := Lib.hid hb
    clear hb
    obtain ⟨hc, hf⟩ := bcell HB1.out
    go_wp2
    go_ret
    exact ⟨rfl, below_trans HB0.out HB1.out⟩
  rw [show eq_Machine x y = true from by unfold eq_Machine; simp [t0, t1, t2]]
  go_enter Tryz.func6, Tryz.ntmps6
  go_wp2_with fail
  refine (eq_SRule_c _ _ _ _ x.2.2 y.2.2 _ HX2.out HY2.out).mono ?_
  rintro e w1 ⟨rfl, hb⟩
  rw [t2]
  have HB1 := Lib.hid hb
  clear hb
  obtain ⟨hc, hf⟩ := bcell HB1.out
  go_wp2
  go_ret
  exact ⟨rfl, below_trans HB0.out HB1.out⟩

theorem i64_small {x : Int} (h0 : 0 ≤ x) (h1 : x ≤ 1000000000000) : I64 x := ⟨by omega, by omega⟩

/-- How many numbers a list of elements takes. -/
def cntL {α : Type} (c : α → Nat) (xs : List α) : Nat := (xs.map c).sum

/-- The elements marked one after another from k on. -/
def mkL {α : Type} (f : α → Int → α) (c : α → Nat) : List α → Int → List α
  | [], _ => []
  | x :: xs, k => f x k :: mkL f c xs (k + c x)

theorem mkL_len {α : Type} (f : α → Int → α) (c : α → Nat) : ∀ (xs : List α) (k : Int), (mkL f c xs k).length = xs.length
  | [], _ => rfl
  | x :: xs, k => by rw [mkL, List.length_cons, mkL_len f c xs, List.length_cons]

theorem mkL_append {α : Type} (f : α → Int → α) (c : α → Nat) : ∀ (xs ys : List α) (k : Int), mkL f c (xs ++ ys) k = mkL f c xs k ++ mkL f c ys (k + cntL c xs)
  | [], ys, k => by simp [mkL, cntL]
  | x :: xs, ys, k => by
    rw [List.cons_append, mkL, mkL, mkL_append f c xs ys, List.cons_append]
    have : k + (c x : Int) + (cntL c xs : Int) = k + (cntL c (x :: xs) : Int) := by unfold cntL; simp only [List.map_cons, List.sum_cons]; omega
    rw [this]

theorem cntL_take {α : Type} (c : α → Nat) (xs : List α) (i : Nat) (h : i < xs.length) : cntL c (xs.take (i + 1)) = cntL c (xs.take i) + c xs[i] := costL_take c xs i h

theorem cntL_le {α : Type} (c : α → Nat) (xs : List α) (i : Nat) : cntL c (xs.take i) ≤ cntL c xs := cost_le c xs i

/-- What a marking loop has made after i rounds. -/
def mkTo {α : Type} (f : α → Int → α) (c : α → Nat) (xs : List α) (k : Int) (i : Nat) : List α := mkL f c (xs.take i) k ++ xs.drop i

theorem mkTo_zero {α : Type} (f : α → Int → α) (c : α → Nat) (xs : List α) (k : Int) : mkTo f c xs k 0 = xs := by simp [mkTo, mkL]

theorem mkTo_len {α : Type} (f : α → Int → α) (c : α → Nat) (xs : List α) (k : Int) (i : Nat) : (mkTo f c xs k i).length = xs.length := by
  unfold mkTo; rw [List.length_append, mkL_len, List.length_take, List.length_drop]; omega

theorem mkTo_end {α : Type} (f : α → Int → α) (c : α → Nat) (xs : List α) (k : Int) : mkTo f c xs k xs.length = mkL f c xs k := by simp [mkTo]

theorem mkTo_step {α : Type} (f : α → Int → α) (c : α → Nat) (xs : List α) (k : Int) (i : Nat) (h : i < xs.length) : (mkTo f c xs k i).set i (f xs[i] (k + cntL c (xs.take i))) = mkTo f c xs k (i + 1) := by
  have hl : (mkL f c (xs.take i) k).length = i := by rw [mkL_len, List.length_take]; omega
  unfold mkTo
  rw [List.take_succ_eq_append_getElem h, mkL_append, List.drop_eq_getElem_cons h, List.set_append_right _ _ (by omega), hl, Nat.sub_self, List.set_cons_zero]
  simp [mkL]

theorem mkL_get {α : Type} (f : α → Int → α) (c : α → Nat) (xs : List α) (k : Int) (i : Nat) (h : i < xs.length) : (mkL f c xs k)[i]? = some (f xs[i] (k + cntL c (xs.take i))) := by
  have h1 : mkL f c xs k = mkL f c (xs.take i) k ++ mkL f c (xs.drop i) (k + cntL c (xs.take i)) := by rw [← mkL_append, List.take_append_drop]
  have hl : (mkL f c (xs.take i) k).length = i := by rw [mkL_len, List.length_take]; omega
  rw [h1, List.getElem?_append_right (by omega), hl, Nat.sub_self, List.drop_eq_getElem_cons h]
  rfl

/-- As an element of a slice: every field is marked. -/
def mk_Rule (_x : tRule) (k : Int) : tRule := (k, k + 1, k + 1 + 1)

def ct_Rule (_x : tRule) : Nat := 1 + 1 + 1

def mk_SRule (xs : List tRule) (k : Int) : List tRule := mkL mk_Rule ct_Rule xs k

def ct_SRule (xs : List tRule) : Nat := cntL ct_Rule xs

/-- By value: what its slices lead to is marked. -/
def mv_Machine (x : tMachine) (k : Int) : tMachine := (x.1, x.2.1, mk_SRule x.2.2 (k))

def cv_Machine (x : tMachine) : Nat := ct_SRule x.2.2

set_option maxHeartbeats 1000000 in
theorem mark_SRule_c (A : Option Addr) (c : Nat) (xs : List tRule) (k : Int) (w : World) (S : Nat → Prop) (h : So eRule w S A c xs) (_hS : ∀ b, S b → b < w.heap.size) (hk : 0 ≤ k) (hk' : k + (ct_SRule xs : Int) ≤ 1000000000000) :
    Calls Tryz.prog 16 #[.slice A xs.length c, .int .i64 k] w fun e w' => e = .returned (.int .i64 (k + (ct_SRule xs : Int))) ∧ So eRule w' S A c (mk_SRule xs k) ∧ Chg S w w' := by
  have hlen := h.sl.len
  clear _hS
  have H := Lib.hid h; clear h
  have HC : Hid (ct_SRule xs = cntL ct_Rule xs) := rfl
  go_enter Tryz.func16, Tryz.ntmps16
  go_wp2
  go_loopw [1, 5] (fun s1 s5 wr => ∃ (i : Nat) (q : Int), i ≤ xs.length ∧ s5 = .int .i64 i ∧ s1 = .int .i64 q ∧ 0 ≤ q ∧ q ≤ 1000000000000 ∧ Hid (q = k + (cntL ct_Rule (xs.take i) : Int)) ∧ Hid (So eRule wr S A c (mkTo mk_Rule ct_Rule xs k i)) ∧ Hid (Chg S w wr)) (fun _ s5 _ => xs.length - (intOf s5).toNat)
  case atStart => exact ⟨0, k, Nat.zero_le _, rfl, rfl, hk, by omega, by show _ = _; simp [cntL], by show So _ _ _ _ _ _; rw [mkTo_zero]; exact H.out, Chg.refl _ _⟩
  case round =>
    obtain ⟨i, q, hi, rfl, rfl, hq0, hq1, HQ, HS, HG⟩ := hrel
    by_cases hlt : i < xs.length
    · have hltz : (i : Int) < (xs.length : Int) := by omega
      have HQ2 : Hid (q + 3 ≤ 1000000000000 ∧ q + 3 = k + (cntL ct_Rule (xs.take (i + 1)) : Int)) := by
        have h1 := cntL_take ct_Rule xs i hlt
        have h2 := cntL_le ct_Rule xs (i + 1)
        have h3 : ct_Rule xs[i] = 3 := rfl
        have h4 := HQ.out
        have h5 := HC.out
        refine ⟨?_, ?_⟩ <;> omega
      have hq2 := HQ2.out.1
      obtain ⟨b, off, t, cur, T, es, rfl, hSb, hB, hT, hO, hcells, hre⟩ := HS.out.at (k := i) (by rw [mkTo_len]; exact hlt)
      have hel := eRule.len (eRule.read hO)
      obtain ⟨v0, hv0⟩ : ∃ v, cur[off + i * 3]? = some v := ⟨_, hcells 0 _ (List.getElem?_eq_getElem (by rw [hel]; decide))⟩
      obtain ⟨v1, hv1⟩ : ∃ v, cur[off + i * 3 + 1]? = some v := ⟨_, hcells 1 _ (List.getElem?_eq_getElem (by rw [hel]; decide))⟩
      obtain ⟨v2, hv2⟩ : ∃ v, cur[off + i * 3 + 2]? = some v := ⟨_, hcells 2 _ (List.getElem?_eq_getElem (by rw [hel]; decide))⟩
      have e0 : wr.cell? ⟨b, off + i * 3, none⟩ = some v0 := (hB.cell _).trans hv0
      have f0 := hB.frozen (off + i * 3)
      have e1 : wr.cell? ⟨b, off + i * 3 + 1, none⟩ = some v1 := (hB.cell _).trans hv1
      have f1 := hB.frozen (off + i * 3 + 1)
      have e2 : wr.cell? ⟨b, off + i * 3 + 2, none⟩ = some v2 := (hB.cell _).trans hv2
      have f2 := hB.frozen (off + i * 3 + 2)
      clear hv0 hv1 hv2
      have HB := Lib.hid hB; clear hB hcells hel
      have HRE : Hid (So eRule (((wr.setCell ⟨b, off + i * 3, none⟩ (.int .i64 (q))).setCell ⟨b, off + i * 3 + 1, none⟩ (.int .i64 (q + 1))).setCell ⟨b, off + i * 3 + 2, none⟩ (.int .i64 (q + 1 + 1))) S (some ⟨b, off, none⟩) c (mkTo mk_Rule ct_Rule xs k (i + 1))) := by
        show So _ _ _ _ _ _
        rw [← mkTo_step mk_Rule ct_Rule xs k i hlt, ← HQ.out]
        refine hre _ [.int .i64 (q), .int .i64 (q + 1), .int .i64 (q + 1 + 1)] _ (oPrI (i64_small (by omega) (by omega)) (oPrI (i64_small (by omega) (by omega)) (oI (i64_small (by omega) (by omega))))) ?_ (fun m hm hne _ => ?_)
        · exact (((HB.out.set _ _).set _ _).set _ _)
        · rw [Below.heap_setCell _ _ _ _ (by exact hne), Below.heap_setCell _ _ _ _ (by exact hne), Below.heap_setCell _ _ _ _ (by exact hne)]
      clear hre hO hT
      have HG2 : Hid (Chg S w (((wr.setCell ⟨b, off + i * 3, none⟩ (.int .i64 (q))).setCell ⟨b, off + i * 3 + 1, none⟩ (.int .i64 (q + 1))).setCell ⟨b, off + i * 3 + 2, none⟩ (.int .i64 (q + 1 + 1)))) := (((HG.out.set (by exact hSb) _).set (by exact hSb) _).set (by exact hSb) _)
      have HSB := Lib.hid hSb; clear hSb
      go_wp2
      go_roundw
      case rel => exact ⟨i + 1, q + 1 + 1 + 1, by omega, by go_num, rfl, by omega, by omega, by show _ = _; have := HQ2.out.2; omega, HRE.out, HG2.out⟩
      case measure => simp [intOf]; omega
    · have hltz : ¬ (i : Int) < (xs.length : Int) := by omega
      obtain rfl : i = xs.length := by omega
      have h2 := HQ.out
      rw [List.take_length] at h2
      have h3 := HS.out
      rw [mkTo_end] at h3
      have H2 := Lib.hid h2; have H3 := Lib.hid h3; clear h2 h3
      go_wp2
      go_ret
      exact ⟨ret_int (by rw [H2.out, HC.out]), H3.out, HG.out⟩

set_option maxHeartbeats 1000000 in
theorem held_SRule_c (A : Option Addr) (c : Nat) (xs : List tRule) (k : Int) (w : World) (h : Sl eRule w (Old w) A c (mk_SRule xs k)) (hk : 0 ≤ k) (hk' : k + (ct_SRule xs : Int) ≤ 1000000000000) :
    Calls Tryz.prog 17 #[.slice A xs.length c, .int .i64 k] w fun e w' => e = .returned (.int .i64 (k + (ct_SRule xs : Int))) ∧ Below w.heap.size w w' := by
  have hlen := h.len
  have hL : (mk_SRule xs k).length = xs.length := mkL_len _ _ _ _
  rw [hL] at hlen
  have HLen := Lib.hid hL; clear hL
  have H := Lib.hid h; clear h
  have HC : Hid (ct_SRule xs = cntL ct_Rule xs) := rfl
  go_enter Tryz.func17, Tryz.ntmps17
  go_wp2
  go_loop [1, 5] (fun s1 s5 => ∃ (i : Nat) (q : Int), i ≤ xs.length ∧ s5 = .int .i64 i ∧ s1 = .int .i64 q ∧ 0 ≤ q ∧ q ≤ 1000000000000 ∧ Hid (q = k + (cntL ct_Rule (xs.take i) : Int))) (fun _ s5 => xs.length - (intOf s5).toNat)
  case atStart => exact ⟨0, k, Nat.zero_le _, rfl, rfl, hk, by omega, by show _ = _; simp [cntL]⟩
  case round =>
    obtain ⟨i, q, hi, rfl, rfl, hq0, hq1, HQ⟩ := hrel
    by_cases hlt : i < xs.length
    · have hltz : (i : Int) < (xs.length : Int) := by omega
      have HQ2 : Hid (q + 3 ≤ 1000000000000 ∧ q + 3 = k + (cntL ct_Rule (xs.take (i + 1)) : Int)) := by
        have h1 := cntL_take ct_Rule xs i hlt
        have h2 := cntL_le ct_Rule xs (i + 1)
        have h3 : ct_Rule xs[i] = 3 := rfl
        have h4 := HQ.out
        have h5 := HC.out
        refine ⟨?_, ?_⟩ <;> omega
      have hq2 := HQ2.out.1
      have hlt2 : i < (mk_SRule xs k).length := by rw [HLen.out]; exact hlt
      have HE : Hid ((mk_SRule xs k)[i] = mk_Rule xs[i] q) := by
        have h1 := mkL_get mk_Rule ct_Rule xs k i hlt
        rw [← HQ.out] at h1
        exact Option.some.inj ((List.getElem?_eq_getElem hlt2).symm.trans h1)
      obtain ⟨b, off, es, rfl, hb, hR, hc⟩ := H.out.at hlt2
      rw [HE.out] at hR
      obtain ⟨rfl, gq0, gq1, gq2⟩ := shape_Rule hR
      have d0 : w.cell? ⟨b, off + i * 3, none⟩ = some (.int .i64 (q)) := hc 0 _ rfl
      have d1 : w.cell? ⟨b, off + i * 3 + 1, none⟩ = some (.int .i64 (q + 1)) := hc 1 _ rfl
      have d2 : w.cell? ⟨b, off + i * 3 + 2, none⟩ = some (.int .i64 (q + 1 + 1)) := hc 2 _ rfl
      have t0 : (q != q) = false := by simp
      have t1 : (q + 1 != q + 1) = false := by simp
      have t2 : (q + 1 + 1 != q + 1 + 1) = false := by simp
      clear hc gq0 gq1 gq2
      try clear hR
      go_wp2
      go_round
      case rel => exact ⟨i + 1, q + 1 + 1 + 1, by omega, by go_num, rfl, by omega, by omega, by show _ = _; have := HQ2.out.2; omega⟩
      case measure => simp [intOf]; omega
    · have hltz : ¬ (i : Int) < (xs.length : Int) := by omega
      obtain rfl : i = xs.length := by omega
      have h2 := HQ.out
      rw [List.take_length] at h2
      have H2 := Lib.hid h2; clear h2
      go_wp2
      go_ret
      exact ⟨ret_int (by rw [H2.out, HC.out]), Below.refl _ _⟩

set_option maxRecDepth 100000 in
set_option maxHeartbeats 1000000 in
theorem mark_Machine_c (es : List Value) (x : tMachine) (k : Int) (w : World) (S : Nat → Prop) (h : eMachine.O w S es x) (hS : ∀ b, S b → b < w.heap.size) (hk : 0 ≤ k) (hk' : k + (cv_Machine x : Int) ≤ 1000000000000) :
    Calls Tryz.prog 7 #[.agg es.toArray, .int .i64 k] w fun e w' => e = .returned (.int .i64 (k + (cv_Machine x : Int))) ∧ eMachine.O w' S es (mv_Machine x k) ∧ Chg S w w' := by
  obtain ⟨_, _, S0, R0, rfl, p0, r0, ⟨rfl, g0⟩, ⟨_, _, S1, R1, rfl, p1, r1, ⟨rfl, g1⟩, ⟨A2, c2, rfl, o2⟩⟩⟩ := h
  have HB0 : Hid (Below w.heap.size w (w.alloc (.cells #[.int .i64 x.1, .int .i64 x.2.1, .slice A2 x.2.2.length c2] 24))) := (Below.refl _ _).alloc (Nat.le_refl _) _
  have HS0 := Lib.hid hS; clear hS
  have SUB2 : Hid (∀ b, R1 b → S b) := fun b hb => (r0 b (r1 b hb))
  have O2 := Lib.hid (o2.keep (w' := w.alloc (.cells #[.int .i64 x.1, .int .i64 x.2.1, .slice A2 x.2.2.length c2] 24)) fun b hb => Below.heap_alloc _ _ _ (HS0.out b (SUB2.out b hb))); clear o2
  have ct2 := Lib.hid (show (0 : Int) ≤ (ct_SRule x.2.2 : Int) from by omega)
  have HCT : Hid (cv_Machine x = ct_SRule x.2.2) := rfl
  go_enter Tryz.func7, Tryz.ntmps7
  go_wp2_with fail
  refine (mark_SRule_c _ _ x.2.2 _ _ R1 O2.out (fun b hb => Nat.lt_of_lt_of_le (HS0.out b (SUB2.out b hb)) HB0.out.size) (by omega) (by have := HCT.out; omega)).mono ?_
  rintro e w1 ⟨rfl, hs, hc⟩
  have HX : Hid (Blk w1 w.heap.size 24 #[.int .i64 x.1, .int .i64 x.2.1, .slice A2 x.2.2.length c2]) := (hc.block w.heap.size (by simp) (fun hb => Nat.lt_irrefl _ (HS0.out _ (SUB2.out _ hb)))).trans (Blk.new w 24 #[.int .i64 x.1, .int .i64 x.2.1, .slice A2 x.2.2.length c2])
  clear O2; have O2 := Lib.hid hs; clear hs
  have HG1 : Hid (Chg S (w.alloc (.cells #[.int .i64 x.1, .int .i64 x.2.1, .slice A2 x.2.2.length c2] 24)) w1) := hc.mono SUB2.out
  clear hc
  have HXo := HX; clear HX
  have x0 : w1.cell? ⟨w.heap.size, 0, none⟩ = some (.int .i64 x.1) := HXo.out.cell 0
  have x1 : w1.cell? ⟨w.heap.size, 1, none⟩ = some (.int .i64 x.2.1) := HXo.out.cell 1
  have x2 : w1.cell? ⟨w.heap.size, 2, none⟩ = some (.slice A2 x.2.2.length c2) := HXo.out.cell 2
  go_wp2
  go_ret
  refine ⟨ret_int (by have := HCT.out; omega), ?_, (Chg.of_below HB0.out).trans HG1.out⟩
  exact ⟨[_], _, S0, R0, rfl, p0, r0, ⟨rfl, g0⟩, ⟨[_], _, S1, R1, rfl, p1, r1, ⟨rfl, g1⟩, ⟨A2, c2, congrArg (fun m => [Value.slice A2 m c2]) (show x.2.2.length = (mv_Machine x k).2.2.length from (mkL_len _ _ _ _).symm), O2.out⟩⟩⟩

set_option maxRecDepth 100000 in
set_option maxHeartbeats 1000000 in
theorem held_Machine_c (es : List Value) (x : tMachine) (k : Int) (w : World) (h : eMachine.R w (Old w) es (mv_Machine x k)) (hk : 0 ≤ k) (hk' : k + (cv_Machine x : Int) ≤ 1000000000000) :
    Calls Tryz.prog 8 #[.agg es.toArray, .int .i64 k] w fun e w' => e = .returned (.int .i64 (k + (cv_Machine x : Int))) ∧ Below w.heap.size w w' := by
  obtain ⟨A2, c2, rfl, g0, g1, g2⟩ := shape_Machine h
  have e2 : (mv_Machine x k).2.2.length = x.2.2.length := mkL_len _ _ _ _
  try clear h
  rw [e2]
  clear e2
  show Calls Tryz.prog 8 #[.agg #[.int .i64 x.1, .int .i64 x.2.1, .slice A2 x.2.2.length c2], .int .i64 k] w _
  have HB0 : Hid (Below w.heap.size w (w.alloc (.cells #[.int .i64 x.1, .int .i64 x.2.1, .slice A2 x.2.2.length c2] 24))) := (Below.refl _ _).alloc (Nat.le_refl _) _
  have HX := Lib.hid (Blk.new w 24 #[.int .i64 x.1, .int .i64 x.2.1, .slice A2 x.2.2.length c2])
  have O2 := Lib.hid (g2.on HB0.out); clear g2
  have HCT : Hid (cv_Machine x = ct_SRule x.2.2) := rfl
  go_enter Tryz.func8, Tryz.ntmps8
  go_wp2_with fail
  refine (held_SRule_c _ _ x.2.2 _ _ (by exact O2.out) (by omega) (by have := HCT.out; omega)).mono ?_
  rintro e w1 ⟨rfl, hb⟩
  have HB1 := Lib.hid hb; clear hb
  have x0 : w1.cell? ⟨w.heap.size, 0, none⟩ = some (.int .i64 x.1) := (HX.out.on HB1.out).cell 0
  have x1 : w1.cell? ⟨w.heap.size, 1, none⟩ = some (.int .i64 x.2.1) := (HX.out.on HB1.out).cell 1
  have x2 : w1.cell? ⟨w.heap.size, 2, none⟩ = some (.slice A2 x.2.2.length c2) := (HX.out.on HB1.out).cell 2
  have n0 : ¬ k + (ct_SRule x.2.2 : Int) < 0 := by omega
  go_wp2
  go_ret
  exact ⟨ret_int (by have := HCT.out; omega), below_trans HB0.out HB1.out⟩

theorem cntL_const {α : Type} (c : α → Nat) (n : Nat) (xs : List α) (h : ∀ x, c x = n) : cntL c xs = n * xs.length := by
  unfold cntL
  induction xs with
  | nil => simp
  | cons x xs ih => rw [List.map_cons, List.sum_cons, ih, h, List.length_cons, Nat.mul_succ]; omega

theorem So.take {α : Type} {E : Enc α} {w : World} {S : Nat → Prop} {A : Option Addr} {c : Nat} {xs : List α} (h : So E w S A c xs) (k : Nat) : So E w S A c (xs.take k) :=
  ⟨by have := h.1; rw [List.length_take]; omega, h.2.1, fun hn => by
    obtain ⟨b, off, t, cur, T, hA, hb, hB, hT, hd, hc⟩ := h.2.2 (by rintro rfl; simp at hn)
    refine ⟨b, off, t, cur, T, hA, hb, hB, hT, hd, fun i x hx => hc i x ?_⟩
    rw [List.getElem?_take] at hx
    split at hx
    · exact hx
    · cases hx⟩

theorem Sl.take {α : Type} {E : Enc α} {w : World} {S : Nat → Prop} {A : Option Addr} {c : Nat} {xs : List α} (h : Sl E w S A c xs) (k : Nat) : Sl E w S A c (xs.take k) :=
  ⟨by have := h.1; rw [List.length_take]; omega, h.2.1, fun hn => by
    obtain ⟨b, off, hA, hb, hc⟩ := h.2.2 (by rintro rfl; simp at hn)
    refine ⟨b, off, hA, hb, fun i x hx => hc i x ?_⟩
    rw [List.getElem?_take] at hx
    split at hx
    · exact hx
    · cases hx⟩

theorem So.drop1 {α : Type} {E : Enc α} {w : World} {S : Nat → Prop} {b off : Nat} {c : Nat} {xs : List α} (h : So E w S (some ⟨b, off, none⟩) c xs) (k : Nat) : So E w S (some ⟨b, off + k * E.size, none⟩) (c - k) (xs.drop k) :=
  ⟨by have := h.1; rw [List.length_drop]; omega, by have := h.2.1; omega, fun hn => by
    obtain ⟨b', off', t, cur, T, hA, hb, hB, hT, hd, hc⟩ := h.2.2 (by rintro rfl; simp at hn)
    simp only [Option.some.injEq, Addr.mk.injEq, and_true] at hA
    obtain ⟨rfl, rfl⟩ := hA
    refine ⟨b, _, t, cur, fun i => T (k + i), rfl, hb, hB, fun i => hT _, fun i j m h1 h2 => by have := hd _ _ _ h1 h2; omega, fun i x hx => ?_⟩
    rw [List.getElem?_drop] at hx
    obtain ⟨es, h1, h2⟩ := hc _ x hx
    refine ⟨es, h1, fun j v hv => ?_⟩
    have := h2 j v hv
    rw [Nat.add_mul, ← Nat.add_assoc] at this
    exact this⟩

theorem Sl.drop1 {α : Type} {E : Enc α} {w : World} {S : Nat → Prop} {b off : Nat} {c : Nat} {xs : List α} (h : Sl E w S (some ⟨b, off, none⟩) c xs) (k : Nat) : Sl E w S (some ⟨b, off + k * E.size, none⟩) (c - k) (xs.drop k) :=
  ⟨by have := h.1; rw [List.length_drop]; omega, by have := h.2.1; omega, fun hn => by
    obtain ⟨b', off', hA, hb, hc⟩ := h.2.2 (by rintro rfl; simp at hn)
    simp only [Option.some.injEq, Addr.mk.injEq, and_true] at hA
    obtain ⟨rfl, rfl⟩ := hA
    refine ⟨b, _, rfl, hb, fun i x hx => ?_⟩
    rw [List.getElem?_drop] at hx
    obtain ⟨es, h1, h2⟩ := hc _ x hx
    refine ⟨es, h1, fun j v hv => ?_⟩
    have := h2 j v hv
    rw [Nat.add_mul, ← Nat.add_assoc] at this
    exact this⟩

def evp (L : List (Nat × Value)) : List (Nat × Operand) → Option (List (Nat × Value))
  | [] => some []
  | (i, x) :: xs => match ev L x, evp L xs with
    | some v, some vs => some ((i, v) :: vs)
    | _, _ => none

theorem evp_map {n : Nat} {L : List (Nat × Value)} {a : Act} (hE : Env n L a) : ∀ (xs : List (Nat × Operand)) (vs : List (Nat × Value)), evp L xs = some vs → (xs.map fun p => (p.1, a.eval p.2)) = vs
  | [], vs, h => by simp [evp] at h; subst h; rfl
  | (i, x) :: xs, vs, h => by
    simp only [evp] at h
    cases h1 : ev L x with
    | none => simp [h1] at h
    | some v =>
      cases h2 : evp L xs with
      | none => simp [h1, h2] at h
      | some us =>
        simp [h1, h2] at h
        subst h
        rw [List.map_cons, hE.ev h1, evp_map hE xs us h2]

def setP (cs : List Value) : List (Nat × Value) → List Value
  | [] => cs
  | p :: r => setP (cs.set p.1 p.2) r

theorem one_cells {v : Value} (h : v.oneCell' = true) : v.cells = #[v] := by cases v <;> first | rfl | (simp [Value.oneCell'] at h)

theorem fill_one {pl : Array (Nat × Nat)} {m : Nat} (hp : ∀ i, i < m → pl[i]? = some (i, 1)) : ∀ (vs : List (Nat × Value)) (cs : List Value), cs.length = m → (∀ p ∈ vs, p.1 < m ∧ p.2.oneCell' = true) → Instr.fill (fun i => pl[i]?) cs.toArray vs = some (setP cs vs).toArray
  | [], cs, _, _ => rfl
  | p :: r, cs, hl, h => by
    obtain ⟨i, v⟩ := p
    have hi := h (i, v) (by simp)
    have ih := fill_one hp r (cs.set i v) (by simpa using hl) (fun q hq => h q (by simp [hq]))
    have h2 : i + 1 ≤ cs.length := by have := hi.1; omega
    have h3 : ¬ (cs.toArray.size < i + 1) := by simp; omega
    simp only [Instr.fill, hp i hi.1, one_cells hi.2]
    simp [setP, ← ih, h3, h2]
    intro h4; omega

/-- What is known of a struct type whose fields take a cell each. -/
structure TB (P : Program) (t : TypeId) (zs : List Value) : Prop where
  tv : TV P t true zs
  under : ∃ fs pl, P.underlying t = some (.struct fs) ∧ (∀ w, (fs.mapM fun (f : Field) => (do pure (f.offset, ← sizeOf f.type) : Sem (Nat × Nat))).run P w = .ok pl w) ∧ ∀ i, i < zs.length → pl[i]? = some (i, 1)

theorem x_build {P : Program} {S : World → Prop} {L : List (Nat × Value)} {d : Option Tmp} {t : TypeId} {ps : List (Nat × Operand)} {vs : List (Nat × Value)} {zs : List Value} {ty : TypeId} {pos : String} {af : Array Edge} {g : Option (Nat × Bool)} (ht : TB P t zs) (he : evp L ps = some vs) (hv : ∀ p ∈ vs, p.1 < zs.length ∧ p.2.oneCell' = true) : XS P S L ⟨d, .build t ps.toArray, ty, pos, af, g⟩ (.agg (setP zs vs).toArray) := fun _ a w hE _ => by
  obtain ⟨fs, pl, h1, h2, h3⟩ := ht.under
  obtain ⟨i, z, e1, e2, e3, e4⟩ := ht.tv.info
  have hf := fill_one h3 vs zs rfl hv
  have hm := evp_map hE ps vs he
  have hz : (zeroValue t).run P w = .ok z w := by simp [zeroValue, typeInfo, e1, e2]
  simp only [execOp, Instr.build, List.map_toArray, hm, Sem.run_bind, hz, Result.andThen_ok, run_underlying h1, h2 w, e4]
  simp [hf]

theorem foldl_setAll (off : Nat) : ∀ (vs : List Value) (k : Nat) (cs : Array Value), (vs.zipIdx k).foldl (fun cs (p : Value × Nat) => cs.setIfInBounds (off + p.2) p.1) cs = setAll cs (off + k) vs
  | [], _, _ => rfl
  | v :: vs, k, cs => by
    rw [List.zipIdx_cons, List.foldl_cons, foldl_setAll off vs (k + 1)]
    rfl

theorem setAll_split (pre mid post vs : List Value) (h : mid.length = vs.length) : setAll (pre ++ mid ++ post).toArray pre.length vs = (pre ++ vs ++ post).toArray := by
  apply Array.ext_getElem?
  intro i
  rw [get_setAll _ _ _ _ (by simp; omega)]
  by_cases h1 : pre.length ≤ i ∧ i < pre.length + vs.length
  · rw [if_pos h1]
    simp only [List.getElem?_toArray]
    rw [List.append_assoc, List.getElem?_append_right h1.1, List.getElem?_append_left (by omega)]
  · rw [if_neg h1]
    simp only [List.getElem?_toArray, List.append_assoc]
    by_cases h2 : i < pre.length
    · rw [List.getElem?_append_left h2, List.getElem?_append_left h2]
    · rw [List.getElem?_append_right (by omega), List.getElem?_append_right (by omega), List.getElem?_append_right (by omega), List.getElem?_append_right (by omega), h]

def numb (j : Nat) : List Value → List (Nat × Value)
  | [] => []
  | v :: vs => (j, v) :: numb (j + 1) vs

theorem fill_all (sz : Nat) : ∀ (vs : List Value) (j : Nat) (pre post : List Value), pre.length = j * sz → post.length = vs.length * sz → (∀ v ∈ vs, v.cells.size = sz) → Instr.fill (fun i => some (i * sz, sz)) (pre ++ post).toArray (numb j vs) = some (pre ++ (vs.map fun v => v.cells.toList).flatten).toArray
  | [], j, pre, post, _, h2, _ => by
    have : post = [] := List.eq_nil_of_length_eq_zero (by simpa using h2)
    subst this; simp [numb, Instr.fill]
  | v :: vs, j, pre, post, h1, h2, h3 => by
    have hv := h3 v (by simp)
    rw [List.length_cons, Nat.succ_mul] at h2
    have hsp : post = post.take sz ++ post.drop sz := (List.take_append_drop sz post).symm
    have hl : (post.take sz).length = v.cells.toList.length := by rw [List.length_take]; simp [hv]; omega
    have hset := setAll_split pre (post.take sz) (post.drop sz) v.cells.toList hl
    have ih := fill_all sz vs (j + 1) (pre ++ v.cells.toList) (post.drop sz) (by simp [h1, hv, Nat.succ_mul]) (by rw [List.length_drop]; omega) (fun u hu => h3 u (by simp [hu]))
    have hfold : v.cells.zipIdx.foldl (fun cs (p : Value × Nat) => cs.setIfInBounds (j * sz + p.2) p.1) (pre ++ post).toArray = (pre ++ v.cells.toList ++ post.drop sz).toArray := by
      rw [← Array.foldl_toList, Array.toList_zipIdx, foldl_setAll, Nat.add_zero, ← h1, ← hset, List.append_assoc, ← hsp]
    have hle : ¬ ((pre ++ post).toArray.size < j * sz + sz) := by simp; omega
    have hc : (v.cells.size ≠ sz || decide (j * sz + v.cells.size > (pre ++ post).toArray.size)) = false := by
      rw [hv]; simp; omega
    simp only [numb, Instr.fill]
    rw [if_neg (by rw [hc]; simp)]
    rw [show (v.cells.zipIdx.foldl (fun cs x => match x with | (c, j_1) => cs.setIfInBounds (j * sz + j_1) c) (pre ++ post).toArray) = (pre ++ v.cells.toList ++ post.drop sz).toArray from hfold, ih]
    simp

/-- A slice literal, all of its elements given. -/
theorem run_lit {P : Program} {n m : Nat} {a : Act} {L : List (Nat × Value)} {w : World} {t e : TypeId} {sz by_ : Nat} {ps : List (Nat × Operand)} {vs : List Value} {cs : List Value} {d : Option Tmp} {ty : TypeId} {pos : String} {af : Array Edge} {g : Option (Nat × Bool)} (hT : TSl P t e sz by_) (hE : Env n L a) (he : evp L ps = some (numb 0 vs)) (hm : vs.length = m) (hv : ∀ v ∈ vs, v.cells.size = sz) (hcs : (vs.map fun v => v.cells.toList).flatten = cs) (hb : m * sz ≤ 16777216) :
    (execOp a.eval ⟨d, .buildSlice t m ps.toArray, ty, pos, af, g⟩).run P w = .ok (.value (.slice (some ⟨w.heap.size, 0, none⟩) m m)) (w.alloc (.cells cs.toArray e)) := by
  obtain ⟨i, z, e1, e2, e3, e4, e5⟩ := hT.info
  subst hm hcs
  have hE' := evp_map hE ps _ he
  have hb' : ¬ (vs.length * i.size > 2 ^ 24) := by rw [e3]; omega
  have key : ∀ zero : Array Value, Instr.fill (fun i_1 => some (i_1 * i.size, i.size)) ((Array.range (vs.length * i.size)).map (zero[· % zero.size]!)) (numb 0 vs) = some (vs.map fun v => v.cells.toList).flatten.toArray := by
    intro zero
    have := fill_all sz vs 0 [] ((Array.range (vs.length * i.size)).map (zero[· % zero.size]!)).toList (by simp) (by simp [e3]) hv
    simp only [List.nil_append, Array.toArray_toList] at this
    rw [e3] at this ⊢; exact this
  simp only [execOp, Instr.buildSlice, List.map_toArray, hE', Sem.run_bind, run_underlying hT.under, Result.andThen_ok, sizeOf, typeInfo, run_program, e1, Sem.run_pure, hb', if_false]
  by_cases h0 : vs.length * i.size = 0
  · simp [h0, newRow] at key ⊢
    have := key #[]
    simp at this
    simp [this]
  · simp [h0, zeroValue, typeInfo, e1, e2, newRow, key]

theorem lkI {t : Nat} {L : List (Nat × Value)} {q : IntKind} {x y : Int} (h : lk t L = some (.int q x)) (e : x = y) : lk t L = some (.int q y) := e ▸ h

theorem Held.to {M : Nat → Prop} {w0 : World} {rs rs' : List Res} {w : World} (h : Held M w0 rs w) (e : rs = rs') : Held M w0 rs' w := e ▸ h

theorem Held.flatO {M : Nat → Prop} {w0 : World} {rs : List Res} {w : World} (h : Held M w0 rs w) {α : Type} {E : Enc α} {cs : List Value} {x : α} (ho : ∀ W, E.O W Nob cs x) : Held M w0 (rO E Nob cs x :: rs) w := h.new (Below.refl _ _) (rO E Nob cs x) (ho w) fun _ h => h.elim

theorem oPrN {α β : Type} {E : Enc α} {F : Enc β} {w : World} {c1 c2 : List Value} {x : α} {y : β} (h1 : E.O w Nob c1 x) (h2 : F.O w Nob c2 y) : (ePr E F).O w Nob (c1 ++ c2) (x, y) := ⟨c1, c2, Nob, Nob, rfl, fun b hb => hb.elim, fun b hb => hb, h1, h2⟩

/-- A literal slice reads as the list of what its elements read as. -/
theorem Held.slLit {M : Nat → Prop} {w0 w : World} {rs : List Res} {α : Type} {E : Enc α} {g : Nat} {t : TypeId} {css : List (List Value)} {xs : List α} (h : Held M w0 rs w) {i : Nat} (hi : rs[i]? = some (rBlk g t css.flatten)) (hl : css.length = xs.length) (hm : xs.length ≤ maxLen) (hR : ∀ (j : Nat) (x : α), xs[j]? = some x → ∃ es, css[j]? = some es ∧ E.R w (Old w) es x) : Sl E w (Old w) (some ⟨g, 0, none⟩) xs.length xs := by
  have hB : Blk w g t css.flatten.toArray := h.get hi
  refine ⟨Nat.le_refl _, hm, fun _ => ⟨g, 0, rfl, Blk.lt hB, fun j x hx => ?_⟩⟩
  obtain ⟨es, h1, h2⟩ := hR j x hx
  refine ⟨es, h2, fun q v hv => ?_⟩
  have hsz : ∀ es ∈ css, es.length = E.size := fun es hes => by
    obtain ⟨m, hm', rfl⟩ := List.getElem_of_mem hes
    obtain ⟨es', h3, h4⟩ := hR m xs[m] (List.getElem?_eq_getElem (by omega))
    rw [List.getElem?_eq_getElem hm'] at h3
    simp at h3; rw [h3]; exact E.len h4
  have hq : q < E.size := by
    have := (List.getElem?_eq_some_iff.1 hv).1
    rw [hsz es (List.mem_of_getElem? h1)] at this; exact this
  have := flatten_at E.size css hsz j es h1 q hq
  rw [Nat.zero_add, hB.cell, List.getElem?_toArray, this]; exact hv

theorem tv_parts {P : Program} {t : TypeId} {z : Value} {n : Nat} (h : (P.info? t).map (fun i => (i.zero, i.size)) = some (some z, n)) : ∃ i, P.info? t = some i ∧ i.zero = some z ∧ i.size = n := by
  cases hi : P.info? t with
  | none => rw [hi] at h; cases h
  | some i =>
    rw [hi] at h
    simp only [Option.map_some, Option.some.injEq, Prod.mk.injEq] at h
    exact ⟨i, rfl, h.1, h.2⟩

theorem ts_parts {P : Program} {t : TypeId} {z : Value} {n b : Nat} (h : (P.info? t).map (fun i => (i.zero, i.size, i.bytes)) = some (some z, n, b)) : ∃ i, P.info? t = some i ∧ i.zero = some z ∧ i.size = n ∧ i.bytes = b := by
  cases hi : P.info? t with
  | none => rw [hi] at h; cases h
  | some i =>
    rw [hi] at h
    simp only [Option.map_some, Option.some.injEq, Prod.mk.injEq] at h
    exact ⟨i, rfl, h.1, h.2.1, h.2.2⟩

/-- The address of a slice cut at l. -/
def cutA (A : Option Addr) (c l sz : Nat) : Option Addr := if c = l then A else A.map fun a => a.add (l * sz)

theorem Sl.cutD {α : Type} {E : Enc α} {w : World} {S : Nat → Prop} {A : Option Addr} {c : Nat} {xs : List α} (h : Sl E w S A c xs) (l : Nat) : Sl E w S (cutA A c l E.size) (c - l) (xs.drop l) := by
  unfold cutA
  split
  · next hc =>
    rw [List.drop_eq_nil_of_le (by have := h.1; omega)]
    exact Sl.nil (by have := h.2.1; omega)
  · by_cases hx : xs = []
    · subst hx; rw [List.drop_nil]; exact Sl.nil (by have := h.2.1; omega)
    · obtain ⟨b, off, rfl, _⟩ := h.2.2 hx
      simp only [Option.map_some, add_none]
      exact h.drop1 l

theorem So.cutD {α : Type} {E : Enc α} {w : World} {S : Nat → Prop} {A : Option Addr} {c : Nat} {xs : List α} (h : So E w S A c xs) (l : Nat) : So E w S (cutA A c l E.size) (c - l) (xs.drop l) := by
  unfold cutA
  split
  · next hc =>
    rw [List.drop_eq_nil_of_le (by have := h.1; omega)]
    exact So.nil (by have := h.2.1; omega)
  · by_cases hx : xs = []
    · subst hx; rw [List.drop_nil]; exact So.nil (by have := h.2.1; omega)
    · obtain ⟨b, off, _, _, _, rfl, _⟩ := h.2.2 hx
      simp only [Option.map_some, add_none]
      exact h.drop1 l

theorem x_sliceL {P : Program} {S : World → Prop} {L : List (Nat × Value)} {d : Option Tmp} {x lo : Operand} {t e : TypeId} {sz by_ : Nat} {A : Option Addr} {n c k r : Nat} {m : Int} {q : IntKind} {ty : TypeId} {pos : String} {af : Array Edge} {g : Option (Nat × Bool)} (ht : TSl P t e sz by_) (hx : ev L x = some (.slice A n c)) (hlo : ev L lo = some (.int q m)) (hm : m = (k : Int)) (hk : k ≤ n) (hr : n - k = r) : XS P S L ⟨d, .slice t x (some lo) none none, ty, pos, af, g⟩ (.slice (cutA A c k sz) r (c - k)) := fun _ _ w hE _ => by
  obtain ⟨i, z, h1, _, h2, _⟩ := ht.info
  subst hm h2 hr
  have h3 : (0 : Int) ≤ (k : Int) ∧ (k : Int) ≤ (n : Int) := by omega
  simp [execOp, hE.ev hx, hE.ev hlo, Instr.sliceAt, Instr.slice, run_underlying ht.under, Instr.sliceBounds, Instr.sliceBound, asIntOf, sizeOf, typeInfo, h1, hk, cutA]

theorem len_cut {α : Type} (xs : List α) (k r : Nat) (h : k + r ≤ xs.length) : ((xs.drop k).take r).length = r := by simp; omega

theorem Env.castI {n t : Nat} {L : List (Nat × Value)} {a : Act} {q : IntKind} {x y : Int} (h : Env n L a) (hl : lk t L = some (.int q x)) (e : x = y) : Env n ((t, .int q y) :: L) a :=
  h.sub' fun s v hv => by
    simp only [lk] at hv
    by_cases hs : Nat.beq s t = true
    · rw [hs] at hv
      have hs' := Nat.eq_of_beq_eq_true hs
      subst hs' e
      simp at hv
      rw [hl, hv]
    · have hs' : Nat.beq s t = false := Bool.eq_false_iff.2 hs
      rw [hs'] at hv; exact hv

/-- A captured variable's cell, as a closure sees it. -/
theorem Held.capB {M : Nat → Prop} {w0 : World} {rs : List Res} {w W : World} {g : Nat} {t : TypeId} {cs : List Value} (h : Held M w0 rs w) (i : Nat) (hi : rs[i]? = some (rBlk g t cs)) (hb : Below w.heap.size w W) : ∀ j v, cs[j]? = some v → W.cell? ⟨g, 0 + j, none⟩ = some v := fun j v hv => by
  have hlt := (h.rng _ (List.mem_of_getElem? hi) g rfl).2
  rw [hb.cell (p := ⟨g, 0 + j, none⟩) hlt]
  exact c_blkN i hi w h j v hv

theorem Env.castS {n t m m' c : Nat} {A : Option Addr} {L : List (Nat × Value)} {a : Act} (h : Env n L a) (hl : lk t L = some (.slice A m c)) (e : m = m') : Env n ((t, .slice A m' c) :: L) a :=
  h.sub' fun s v hv => by
    simp only [lk] at hv
    by_cases hs : Nat.beq s t = true
    · rw [hs] at hv
      have hs' := Nat.eq_of_beq_eq_true hs
      subst hs' e
      simp at hv
      rw [hl, hv]
    · have hs' : Nat.beq s t = false := Bool.eq_false_iff.2 hs
      rw [hs'] at hv; exact hv

/-- What was there, outside M. -/
def Out (M : Nat → Prop) (w : World) (b : Nat) : Prop := b < w.heap.size ∧ ¬ M b

/-- The blocks of some parts. -/
def Foot (xs : List Res) (b : Nat) : Prop := ∃ r ∈ xs, r.S b

theorem Held.startM {w : World} {α : Type} {E : Enc α} {S : Nat → Prop} {cs : List Value} {x : α} (ho : E.O w S cs x) (hS : ∀ b, S b → b < w.heap.size) : Held S w [rO E S cs x] w :=
  ⟨Chg.refl _ _, (fun r hr => by simp at hr; subst hr; exact ho), (fun r hr b hb => by simp at hr; subst hr; exact ⟨.inl hb, hS b hb⟩), by simp⟩

theorem Held.focus {M0 : Nat → Prop} {w0 : World} {xs rs : List Res} {w : World} (h : Held M0 w0 (xs ++ rs) w) : Held (Foot xs) w xs w :=
  ⟨Chg.refl _ _, fun r hr => h.ok r (by simp [hr]), fun r hr b hb => ⟨.inl ⟨r, hr, hb⟩, (h.rng r (by simp [hr]) b hb).2⟩, (List.pairwise_append.1 h.sep).1⟩

theorem Held.back {M0 : Nat → Prop} {w0 : World} {xs ys rs : List Res} {w w' : World} (h : Held M0 w0 (xs ++ rs) w) (h' : Held (Foot xs) w ys w') : Held M0 w0 (ys ++ rs) w' where
  chg := by
    refine ⟨h'.chg.os.trans h.chg.os, h'.chg.tape.trans h.chg.tape, h'.chg.output.trans h.chg.output, Nat.le_trans h.chg.size h'.chg.size, fun k hk hM => ?_⟩
    refine (h'.chg.block k (Nat.lt_of_lt_of_le hk h.chg.size) ?_).trans (h.chg.block k hk hM)
    rintro ⟨r, hr, hb⟩
    rcases (h.rng r (by simp [hr]) k hb).1 with q | q
    · exact hM q
    · omega
  ok := by
    intro r hr
    rcases List.mem_append.1 hr with hr | hr
    · exact h'.ok r hr
    · refine r.loc w w' (fun b hb => h'.chg.block b (h.rng r (by simp [hr]) b hb).2 ?_) (h.ok r (by simp [hr]))
      rintro ⟨s, hs, hb'⟩
      exact (List.pairwise_append.1 h.sep).2.2 s hs r hr b hb' hb
  rng := by
    intro r hr b hb
    rcases List.mem_append.1 hr with hr | hr
    · obtain ⟨h1, h2⟩ := h'.rng r hr b hb
      refine ⟨?_, h2⟩
      rcases h1 with ⟨s, hs, hb'⟩ | h1
      · exact (h.rng s (by simp [hs]) b hb').1
      · exact .inr (Nat.le_trans h.size h1)
    · have h1 := h.rng r (by simp [hr]) b hb
      exact ⟨h1.1, Nat.lt_of_lt_of_le h1.2 h'.chg.size⟩
  sep := by
    refine List.pairwise_append.2 ⟨h'.sep, (List.pairwise_append.1 h.sep).2.1, fun r hr s hs b hb hb' => ?_⟩
    rcases (h'.rng r hr b hb).1 with ⟨q, hq, hb2⟩ | h1
    · exact (List.pairwise_append.1 h.sep).2.2 q hq s hs b hb2 hb'
    · have := (h.rng s (by simp [hs]) b hb').2; omega

end Go.Proofs.YthfihlfjphiihaaGreatDoor
