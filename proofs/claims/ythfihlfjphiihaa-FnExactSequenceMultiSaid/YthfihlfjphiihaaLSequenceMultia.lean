/- What the proof of FnExactSequenceMulti needs: contracts of the functions that it reaches, each once. -/
import Derived.Test.YthfihlfjphiihaaProg
import Derived.Test.YthfihlfjphiihaaQMem
import Derived.Test.YthfihlfjphiihaaQOpen
import Derived.WalkKit
import Derived.WalkSpells
import Derived.Below
import Derived.LoopTactic
import Derived.Outline
import Derived.Deep.QuietTactic
import Derived.BigQuiet
import Derived.Deep.LoopGhost
import Derived.Handy
import Derived.Lib.Hide
import Derived.Shelf.Abstract
import Derived.StillTailTactics
import Derived.OwnWalk
import Derived.Maps.AppendAt
import Derived.RegionTactic
import Derived.Deep.RegionHeld3
import Derived.IntWalk
import Derived.Deep.Upon
import Derived.Laws.OwnMore
import Derived.Maps.AppendAt
import Derived.Laws.Small
import Derived.Lib.FrozenHead
import Derived.Lib.RuneBytes
import Derived.Lib.LaidTab
import Derived.Laws.StructEq
import Derived.Maps.OwnSet
import Derived.DeepKeys4
import Derived.Lib.SliceRun
import Derived.Lib.AppendZeros
import Derived.Shelf.SortG.Plain
import Derived.Shelf.SortG.SortNone
import Derived.Shelf.SlicesG.CompactI
import Derived.Shelf.SlicesG.SearchI
import Derived.Sort.OwnSortedInts
import Derived.Lib.RowBridge
import Derived.Lib.ItoaLen
import Derived.Lib.Join
import Derived.Shelf.Strconv.Itoa4
import Derived.Shelf.Strings.OnBuilder
import Derived.Shelf.Strings.BuilderK
import Derived.Shelf.Strings.BuilderRune
import Derived.Shelf.LaysM
import Derived.Ground.NamesProg
import Derived.Shelf.SlSortCmp.WholeK
import Derived.Shelf.SlSortCmp.NoneTotal
namespace Go.Proofs.Ythfihlfjphiihaa
open Go.RowKit

/-- w' is w behind some draws. -/
def Dr (w w' : World) : Prop := ∃ m, w' = w.drewN m

theorem Dr.refl (w : World) : Dr w w := ⟨0, rfl⟩

theorem Dr.drewN {w w' : World} (h : Dr w w') (n : Nat) : Dr w (w'.drewN n) := by
  obtain ⟨m, rfl⟩ := h; exact ⟨m + n, World.drewN_drewN _ _ _⟩

theorem Dr.drew {w w' : World} (h : Dr w w') : Dr w w'.drew := h.drewN 1

theorem Dr.trans {a b c : World} (h : Dr a b) (k : Dr b c) : Dr a c := by
  obtain ⟨m, rfl⟩ := h; obtain ⟨n, rfl⟩ := k; exact ⟨m + n, World.drewN_drewN _ _ _⟩

theorem Dr.cell {w w' : World} (h : Dr w w') (p : Addr) : w'.cell? p = w.cell? p := by obtain ⟨m, rfl⟩ := h; rfl

theorem Dr.size {w w' : World} (h : Dr w w') : w'.heap.size = w.heap.size := by obtain ⟨m, rfl⟩ := h; rfl

theorem Dr.below {w w' : World} (h : Dr w w') : Below w.heap.size w w' := by obtain ⟨m, rfl⟩ := h; exact below_drewN (Below.refl _ _) m

theorem Dr.quiet {P : Program} {f : FuncId} {args : Array Value} {w : World} {n : Nat} {v : Value} (h : Calls P f args (w.drewN n) fun e w' => e = .returned v ∧ Dr (w.drewN n) w') : Calls P f args (w.drewN n) fun e w'' => e = .returned v ∧ ∃ m, w'' = w.drewN m :=
  Calls.quiet_of (h.mono fun _ _ ⟨he, hd⟩ => ⟨he, hd⟩)

theorem Dr.quiet0 {P : Program} {f : FuncId} {args : Array Value} {w : World} {n : Nat} {v : Value} (h : Calls P f args (w.drewN n) fun e w' => e = .returned v ∧ w.drewN n = w') : Calls P f args (w.drewN n) fun e w'' => e = .returned v ∧ ∃ m, w'' = w.drewN m :=
  Calls.quiet_of_same (h.mono fun _ _ ⟨he, hd⟩ => ⟨he, hd.symm⟩)

def lk (t : Nat) : List (Nat × Value) → Option Value
  | [] => none
  | (i, v) :: L => bif Nat.beq t i then some v else lk t L

/-- The slots L are known. -/
structure Env (n : Nat) (L : List (Nat × Value)) (a : Act) : Prop where
  defers : a.defers = []
  size : a.tmps.size = n
  get : ∀ t v, lk t L = some v → a.tmps.getD t undef = v

def ev (L : List (Nat × Value)) : Operand → Option Value
  | .tmp t => lk t L
  | .const v => some v
  | .global g => some (.pointer (some ⟨g, 0, none⟩))
  | .func f => some (.func (.func f) #[] #[])

theorem Env.ev {n : Nat} {L : List (Nat × Value)} {a : Act} {x : Operand} {v : Value} (h : Env n L a) (hx : ev L x = some v) : a.eval x = v := by
  cases x with
  | tmp t => exact h.get t v hx
  | const u => simpa [Go.Proofs.Ythfihlfjphiihaa.ev, Act.eval] using hx
  | global g => simpa [Go.Proofs.Ythfihlfjphiihaa.ev, Act.eval] using hx
  | func f => simpa [Go.Proofs.Ythfihlfjphiihaa.ev, Act.eval] using hx

theorem Env.put {n : Nat} {L : List (Nat × Value)} {a : Act} {d : Nat} (h : Env n L a) (hd : Nat.blt d n = true) (v : Value) : Env n ((d, v) :: L) (a.put (some d) v) where
  defers := h.defers
  size := by simpa [Act.put] using h.size
  get := by
    intro t u hu
    have hlt : d < a.tmps.size := by rw [h.size]; exact Nat.blt_eq ▸ hd
    simp only [lk] at hu
    by_cases e : t = d
    · subst e
      simp at hu
      subst hu
      simp [Act.put, Array.getElem?_setIfInBounds_self_of_lt hlt]
    · have e' : Nat.beq t d = false := Bool.eq_false_iff.2 fun h => e (Nat.eq_of_beq_eq_true h)
      rw [e'] at hu
      have := h.get t u hu
      simpa [Act.put, Array.getElem?_setIfInBounds_ne (fun h => e h.symm)] using this

def subE (L : List (Nat × Value)) : List (Nat × Value) → Prop
  | [] => True
  | p :: K => lk p.1 L = some p.2 ∧ subE L K

theorem Env.sub {n : Nat} {L K : List (Nat × Value)} {a : Act} (h : Env n L a) (hs : subE L K) : Env n K a where
  defers := h.defers
  size := h.size
  get := by
    intro t v hv
    refine h.get t v ?_
    clear h
    induction K with
    | nil => cases hv
    | cons p K ih =>
      obtain ⟨i, u⟩ := p
      simp only [lk] at hv
      by_cases e : Nat.beq t i = true
      · rw [e] at hv
        have e' := Nat.eq_of_beq_eq_true e
        simp at hv
        rw [e', hs.1, hv]
      · have e' : Nat.beq t i = false := Bool.eq_false_iff.2 e
        rw [e'] at hv
        exact ih hs.2 hv

theorem Env.sub' {n : Nat} {L K : List (Nat × Value)} {a : Act} (h : Env n L a) (hs : ∀ t v, lk t K = some v → lk t L = some v) : Env n K a := ⟨h.defers, h.size, fun t v hv => h.get t v (hs t v hv)⟩

theorem Env.start {n : Nat} {vs : List Value} {L : List (Nat × Value)} (hL : ∀ t v, lk t L = some v → vs[t]? = some v) (hn : vs.length ≤ n) : Env n L { tmps := vs.toArray ++ Array.replicate (n - vs.toArray.size) undef, defers := [] } where
  defers := rfl
  size := by simp; omega
  get := by
    intro t v hv
    have h1 := hL t v hv
    have h2 := (List.getElem?_eq_some_iff.1 h1).1
    simp only [Array.getD_eq_getD_getElem?, Array.getElem?_append, List.size_toArray, h2, if_true, List.getElem?_toArray, h1, Option.getD_some]

/-- A part of the memory that is held: its blocks, and what is known of them. -/
structure Res where
  S : Nat → Prop
  φ : World → Prop
  loc : ∀ w w' : World, (∀ b, S b → w'.heap[b]? = w.heap[b]?) → φ w → φ w'

/-- Since w0 nothing has changed but blocks of M; the parts rs are held, apart from one another, in M or in new blocks. -/
structure Held (M : Nat → Prop) (w0 : World) (rs : List Res) (w : World) : Prop where
  chg : Chg M w0 w
  ok : ∀ r ∈ rs, r.φ w
  rng : ∀ r ∈ rs, ∀ b, r.S b → (M b ∨ w0.heap.size ≤ b) ∧ b < w.heap.size
  sep : rs.Pairwise fun r s => ∀ b, r.S b → ¬ s.S b

/-- No block. -/
def Nob : Nat → Prop := fun _ => False

def rBlk (g : Nat) (t : TypeId) (cs : List Value) : Res := ⟨fun b => b = g, fun w => Blk w g t cs.toArray, fun _ _ h hb => (h g rfl).trans hb⟩

def rO {α : Type} (E : Enc α) (S : Nat → Prop) (cs : List Value) (x : α) : Res := ⟨S, fun w => E.O w S cs x, fun _ _ h ho => E.okeep ho h⟩

/-- An owned slice. -/
abbrev rSo {α : Type} (E : Enc α) (S : Nat → Prop) (A : Option Addr) (c : Nat) (xs : List α) : Res := rO (eSl E) S [.slice A xs.length c] xs

theorem Held.start (M : Nat → Prop) (w : World) : Held M w [] w := ⟨Chg.refl _ _, (fun _ h => by cases h), (fun _ h => by cases h), List.Pairwise.nil⟩

theorem Held.below {w0 : World} {rs : List Res} {w : World} (h : Held Nob w0 rs w) : Below w0.heap.size w0 w := h.chg.below (Nat.le_refl _) fun _ h => h.elim

theorem Held.size {M : Nat → Prop} {w0 : World} {rs : List Res} {w : World} (h : Held M w0 rs w) : w0.heap.size ≤ w.heap.size := h.chg.size

theorem Held.get {M : Nat → Prop} {w0 : World} {rs : List Res} {w : World} (h : Held M w0 rs w) {i : Nat} {r : Res} (hi : rs[i]? = some r) : r.φ w := h.ok r (List.mem_of_getElem? hi)

theorem Held.drew {M : Nat → Prop} {w0 : World} {rs : List Res} {w : World} (h : Held M w0 rs w) : Held M w0 rs w.drew := ⟨h.chg.drew, fun r hr => r.loc w _ (fun _ _ => rfl) (h.ok r hr), h.rng, h.sep⟩

theorem Held.on {M : Nat → Prop} {w0 : World} {rs : List Res} {w w' : World} (h : Held M w0 rs w) (hb : Below w.heap.size w w') : Held M w0 rs w' where
  chg := h.chg.trans (.of_below hb)
  ok := fun r hr => r.loc _ _ (fun b hS => hb.block b (h.rng r hr b hS).2) (h.ok r hr)
  rng := fun r hr b hS => ⟨(h.rng r hr b hS).1, Nat.lt_of_lt_of_le (h.rng r hr b hS).2 hb.size⟩
  sep := h.sep

/-- A call has made r. -/
theorem Held.new {M : Nat → Prop} {w0 : World} {rs : List Res} {w w' : World} (h : Held M w0 rs w) (hb : Below w.heap.size w w') (r : Res) (hr : r.φ w') (hS : ∀ b, r.S b → w.heap.size ≤ b ∧ b < w'.heap.size) : Held M w0 (r :: rs) w' where
  chg := (h.on hb).chg
  ok := by
    intro s hs
    rcases List.mem_cons.1 hs with rfl | hs
    · exact hr
    · exact (h.on hb).ok s hs
  rng := by
    intro s hs
    rcases List.mem_cons.1 hs with rfl | hs
    · exact fun b hb' => ⟨.inr (Nat.le_trans h.size (hS b hb').1), (hS b hb').2⟩
    · exact (h.on hb).rng s hs
  sep := List.pairwise_cons.2 ⟨fun s hs b hb1 hb2 => by have h1 := (hS b hb1).1; have h2 := (h.rng s hs b hb2).2; omega, h.sep⟩

theorem Held.newO {M : Nat → Prop} {w0 : World} {rs : List Res} {w w' : World} {α : Type} {E : Enc α} {cs : List Value} {x : α} (h : Held M w0 rs w) (hb : Below w.heap.size w w') (ho : E.O w' (Fr w w') cs x) : ∃ S, Held M w0 (rO E S cs x :: rs) w' :=
  ⟨Fr w w', h.new hb (rO E (Fr w w') cs x) ho fun _ h => h⟩

theorem Held.newS {M : Nat → Prop} {w0 : World} {rs : List Res} {w w' : World} {α : Type} {E : Enc α} {A : Option Addr} {c : Nat} {xs : List α} (h : Held M w0 rs w) (hb : Below w.heap.size w w') (ho : So E w' (Fr w w') A c xs) : ∃ S, Held M w0 (rSo E S A c xs :: rs) w' := h.newO hb (oSl ho)

theorem Held.alloc {M : Nat → Prop} {w0 : World} {rs : List Res} {w : World} (h : Held M w0 rs w) (t : TypeId) (cs : List Value) : Held M w0 (rBlk w.heap.size t cs :: rs) (w.alloc (.cells cs.toArray t)) :=
  h.new ((Below.refl _ _).alloc (Nat.le_refl _) _) (rBlk w.heap.size t cs) (Blk.new w t cs.toArray) fun b (hb : b = _) => by subst hb; simp

def pick (rs : List Res) : List Nat → Option (List Res)
  | [] => some []
  | i :: is => match rs[i]?, pick rs is with
    | some r, some q => some (r :: q)
    | _, _ => none

theorem pick_get {rs rs' : List Res} {is : List Nat} (h : pick rs is = some rs') : ∀ (k : Nat) (r : Res), rs'[k]? = some r → ∃ i, is[k]? = some i ∧ rs[i]? = some r := by
  induction is generalizing rs' with
  | nil => simp [pick] at h; subst h; intro k r hr; simp at hr
  | cons i is ih =>
    simp only [pick] at h
    cases hi : rs[i]? with
    | none => simp [hi] at h
    | some r0 =>
      cases hm : pick rs is with
      | none => simp [hi, hm] at h
      | some rs2 =>
        simp [hi, hm] at h
        subst h
        intro k r hr
        rcases k with _ | k
        · simp at hr; subst hr; exact ⟨i, rfl, hi⟩
        · simp at hr; exact ih hm k r hr

theorem sep_at {rs : List Res} (h : rs.Pairwise fun r s => ∀ b, r.S b → ¬ s.S b) {i j : Nat} {r s : Res} (hi : rs[i]? = some r) (hj : rs[j]? = some s) (hij : i ≠ j) : ∀ b, r.S b → ¬ s.S b := by
  obtain ⟨li, rfl⟩ := List.getElem?_eq_some_iff.1 hi
  obtain ⟨lj, rfl⟩ := List.getElem?_eq_some_iff.1 hj
  rw [List.pairwise_iff_getElem] at h
  rcases Nat.lt_or_gt_of_ne hij with hlt | hlt
  · exact h i j li lj hlt
  · exact fun b h1 h2 => h j i lj li hlt b h2 h1

/-- Some of the parts, in another order. -/
theorem Held.sel {M : Nat → Prop} {w0 : World} {rs : List Res} {w : World} (h : Held M w0 rs w) (is : List Nat) {rs' : List Res} (hn : is.Nodup) (hs : pick rs is = some rs') : Held M w0 rs' w where
  chg := h.chg
  ok := by
    intro r hr
    obtain ⟨k, hk⟩ := List.mem_iff_getElem?.1 hr
    obtain ⟨i, _, hi⟩ := pick_get hs k r hk
    exact h.get hi
  rng := by
    intro r hr
    obtain ⟨k, hk⟩ := List.mem_iff_getElem?.1 hr
    obtain ⟨i, _, hi⟩ := pick_get hs k r hk
    exact h.rng r (List.mem_of_getElem? hi)
  sep := by
    rw [List.pairwise_iff_getElem]
    intro k l lk ll hkl
    obtain ⟨i, h1, hi⟩ := pick_get hs k _ (List.getElem?_eq_getElem lk)
    obtain ⟨j, h2, hj⟩ := pick_get hs l _ (List.getElem?_eq_getElem ll)
    refine sep_at h.sep hi hj ?_
    rintro rfl
    obtain ⟨l1, e1⟩ := List.getElem?_eq_some_iff.1 h1
    obtain ⟨l2, e2⟩ := List.getElem?_eq_some_iff.1 h2
    have := List.pairwise_iff_getElem.1 hn k l l1 l2 hkl
    exact this (e1.trans e2.symm)

/-- What was there at the start, outside M, reads so still. -/
theorem Held.cell0 {M : Nat → Prop} {w0 : World} {rs : List Res} {w : World} (h : Held M w0 rs w) {p : Addr} (hp : p.block < w0.heap.size) (hM : ¬ M p.block) : w.cell? p = w0.cell? p := World.cell?_of_block (w := w0) (h.chg.block p.block hp hM)

theorem Held.old {w0 : World} {rs : List Res} {w : World} {α : Type} {E : Enc α} {A : Option Addr} {c : Nat} {xs : List α} (h : Held Nob w0 rs w) (hs : Sl E w0 (Old w0) A c xs) : Sl E w (Old w) A c xs := hs.on h.below

theorem Held.oldR {w0 : World} {rs : List Res} {w : World} {α : Type} {E : Enc α} {cs : List Value} {x : α} (h : Held Nob w0 rs w) (hs : E.R w0 (Old w0) cs x) : E.R w (Old w) cs x := E.on hs h.below

theorem Held.rd {M : Nat → Prop} {w0 : World} {rs : List Res} {w : World} {α : Type} {E : Enc α} {S : Nat → Prop} {cs : List Value} {x : α} (h : Held M w0 rs w) {i : Nat} (hi : rs[i]? = some (rO E S cs x)) : E.R w (Old w) cs x :=
  E.more (E.read (h.get hi)) fun b hb => (h.rng _ (List.mem_of_getElem? hi) b hb).2

theorem so_of_o {α : Type} {E : Enc α} {w : World} {S : Nat → Prop} {A : Option Addr} {c : Nat} {xs : List α} (h : (eSl E).O w S [.slice A xs.length c] xs) : So E w S A c xs := by
  obtain ⟨A', c', he, hs⟩ := h
  simp only [List.cons.injEq, Value.slice.injEq, and_true, true_and] at he
  obtain ⟨rfl, rfl⟩ := he
  exact hs

theorem sl_of_r {α : Type} {E : Enc α} {w : World} {S : Nat → Prop} {A : Option Addr} {c : Nat} {xs : List α} (h : (eSl E).R w S [.slice A xs.length c] xs) : Sl E w S A c xs := by
  obtain ⟨A', c', he, hs⟩ := h
  simp only [List.cons.injEq, Value.slice.injEq, and_true, true_and] at he
  obtain ⟨rfl, rfl⟩ := he
  exact hs

theorem Held.sl {M : Nat → Prop} {w0 : World} {rs : List Res} {w : World} {α : Type} {E : Enc α} {S : Nat → Prop} {A : Option Addr} {c : Nat} {xs : List α} (h : Held M w0 rs w) {i : Nat} (hi : rs[i]? = some (rSo E S A c xs)) : Sl E w (Old w) A c xs := sl_of_r (h.rd hi)

theorem Held.so {w0 : World} {rs : List Res} {w : World} {α : Type} {E : Enc α} {S : Nat → Prop} {A : Option Addr} {c : Nat} {xs : List α} (h : Held Nob w0 rs w) {i : Nat} (hi : rs[i]? = some (rSo E S A c xs)) : So E w (Fr w0 w) A c xs :=
  (so_of_o (h.get hi)).more fun b hb => by
    have h1 := h.rng _ (List.mem_of_getElem? hi) b hb
    exact ⟨h1.1.resolve_left fun h => h.elim, h1.2⟩

theorem Held.o {w0 : World} {rs : List Res} {w : World} {α : Type} {E : Enc α} {S : Nat → Prop} {cs : List Value} {x : α} (h : Held Nob w0 rs w) {i : Nat} (hi : rs[i]? = some (rO E S cs x)) : E.O w (Fr w0 w) cs x :=
  E.omore (h.get hi) fun b hb => by
    have h1 := h.rng _ (List.mem_of_getElem? hi) b hb
    exact ⟨h1.1.resolve_left fun h => h.elim, h1.2⟩

/-- Part i is rewritten: only its blocks have changed, and new ones have come. -/
theorem Held.mut {M : Nat → Prop} {w0 : World} {rs : List Res} {w w' : World} (h : Held M w0 rs w) {i : Nat} {r : Res} (hi : rs[i]? = some r) (hc : Chg r.S w w') (r' : Res) (hr : r'.φ w') (hS : ∀ b, r'.S b → r.S b ∨ (w.heap.size ≤ b ∧ b < w'.heap.size)) : Held M w0 (rs.set i r') w' where
  chg := by
    refine ⟨hc.os.trans h.chg.os, hc.tape.trans h.chg.tape, hc.output.trans h.chg.output, Nat.le_trans h.chg.size hc.size, fun k hk hM => ?_⟩
    refine (hc.block k (Nat.lt_of_lt_of_le hk h.chg.size) fun hS' => ?_).trans (h.chg.block k hk hM)
    rcases (h.rng r (List.mem_of_getElem? hi) k hS').1 with h1 | h1
    · exact hM h1
    · omega
  ok := by
    intro s hs
    obtain ⟨j, hj⟩ := List.mem_iff_getElem?.1 hs
    by_cases e : i = j
    · subst e
      rw [List.getElem?_set_self (List.getElem?_eq_some_iff.1 hi).1] at hj
      simp at hj; subst hj; exact hr
    · rw [List.getElem?_set_ne e] at hj
      refine s.loc _ _ (fun b hb => hc.block b (h.rng s (List.mem_of_getElem? hj) b hb).2 fun hb' => sep_at h.sep hi hj e b hb' hb) (h.get hj)
  rng := by
    intro s hs b hb
    obtain ⟨j, hj⟩ := List.mem_iff_getElem?.1 hs
    by_cases e : i = j
    · subst e
      rw [List.getElem?_set_self (List.getElem?_eq_some_iff.1 hi).1] at hj
      simp at hj; subst hj
      rcases hS b hb with h1 | h1
      · have h2 := h.rng r (List.mem_of_getElem? hi) b h1
        exact ⟨h2.1, Nat.lt_of_lt_of_le h2.2 hc.size⟩
      · exact ⟨.inr (Nat.le_trans h.size h1.1), h1.2⟩
    · rw [List.getElem?_set_ne e] at hj
      have h2 := h.rng s (List.mem_of_getElem? hj) b hb
      exact ⟨h2.1, Nat.lt_of_lt_of_le h2.2 hc.size⟩
  sep := by
    have key : ∀ (j : Nat) (s : Res), i ≠ j → rs[j]? = some s → ∀ b, r'.S b → ¬ s.S b := by
      intro j s e hj b hb hb'
      rcases hS b hb with h1 | h1
      · exact sep_at h.sep hi hj e b h1 hb'
      · have := (h.rng s (List.mem_of_getElem? hj) b hb').2; omega
    rw [List.pairwise_iff_getElem]
    intro k l lk ll hkl b hb hb'
    have lk' : k < rs.length := by simpa using lk
    have ll' : l < rs.length := by simpa using ll
    by_cases e1 : i = k
    · subst e1
      rw [List.getElem_set_self] at hb
      rw [List.getElem_set_ne (by omega)] at hb'
      exact key l _ (by omega) (List.getElem?_eq_getElem ll') b hb hb'
    · by_cases e2 : i = l
      · subst e2
        rw [List.getElem_set_self] at hb'
        rw [List.getElem_set_ne (by omega)] at hb
        exact key k _ e1 (List.getElem?_eq_getElem lk') b hb' hb
      · rw [List.getElem_set_ne e1] at hb
        rw [List.getElem_set_ne e2] at hb'
        exact List.pairwise_iff_getElem.1 h.sep k l lk' ll' hkl b hb hb'

theorem Held.set {M : Nat → Prop} {w0 : World} {rs : List Res} {w : World} (h : Held M w0 rs w) {i : Nat} {g : Nat} {t : TypeId} {cs : List Value} (hi : rs[i]? = some (rBlk g t cs)) (o : Nat) (v : Value) : Held M w0 (rs.set i (rBlk g t (cs.set o v))) (w.setCell ⟨g, o, none⟩ v) := by
  refine h.mut hi ((Chg.refl _ _).set (by exact rfl) _) (rBlk g t (cs.set o v)) ?_ fun b hb => .inl hb
  have := Blk.set (h.get hi) o v
  have e : cs.toArray.setIfInBounds o v = (cs.set o v).toArray := by simp
  rw [e] at this
  exact this

/-- Two parts become one. -/
theorem Held.join {M : Nat → Prop} {w0 : World} {r s : Res} {rs : List Res} {w : World} (h : Held M w0 (r :: s :: rs) w) (q : Res) (hq : r.φ w → s.φ w → (∀ b, r.S b → ¬ s.S b) → q.φ w) (hS : ∀ b, q.S b → r.S b ∨ s.S b) : Held M w0 (q :: rs) w where
  chg := h.chg
  ok := by
    intro x hx
    rcases List.mem_cons.1 hx with rfl | hx
    · exact hq (h.ok r (by simp)) (h.ok s (by simp)) ((List.pairwise_cons.1 h.sep).1 s (by simp))
    · exact h.ok x (by simp [hx])
  rng := by
    intro x hx b hb
    rcases List.mem_cons.1 hx with rfl | hx
    · rcases hS b hb with h1 | h1
      · exact h.rng r (by simp) b h1
      · exact h.rng s (by simp) b h1
    · exact h.rng x (by simp [hx]) b hb
  sep := by
    have h1 := List.pairwise_cons.1 h.sep
    have h2 := List.pairwise_cons.1 h1.2
    refine List.pairwise_cons.2 ⟨fun x hx b hb hb' => ?_, h2.2⟩
    rcases hS b hb with h3 | h3
    · exact h1.1 x (by simp [hx]) b h3 hb'
    · exact h2.1 x hx b h3 hb'

/-- One part turned into another over the same blocks. -/
theorem Held.turn {M : Nat → Prop} {w0 : World} {r : Res} {rs : List Res} {w : World} (h : Held M w0 (r :: rs) w) (q : Res) (hq : r.φ w → q.φ w) (hS : ∀ b, q.S b → r.S b) : Held M w0 (q :: rs) w where
  chg := h.chg
  ok := by
    intro x hx
    rcases List.mem_cons.1 hx with rfl | hx
    · exact hq (h.ok r (by simp))
    · exact h.ok x (by simp [hx])
  rng := by
    intro x hx b hb
    rcases List.mem_cons.1 hx with rfl | hx
    · exact h.rng r (by simp) b (hS b hb)
    · exact h.rng x (by simp [hx]) b hb
  sep := by
    have h1 := List.pairwise_cons.1 h.sep
    exact List.pairwise_cons.2 ⟨fun x hx b hb hb' => h1.1 x hx b (hS b hb) hb', h1.2⟩

theorem Held.pair {M : Nat → Prop} {w0 : World} {rs : List Res} {w : World} {α β : Type} {E : Enc α} {F : Enc β} {S1 S2 : Nat → Prop} {c1 c2 : List Value} {x : α} {y : β} (h : Held M w0 (rO E S1 c1 x :: rO F S2 c2 y :: rs) w) : Held M w0 (rO (ePr E F) (fun b => S1 b ∨ S2 b) (c1 ++ c2) (x, y) :: rs) w :=
  h.join _ (fun h1 h2 hd => ⟨c1, c2, S1, S2, rfl, fun b hb => ⟨.inl hb, hd b hb⟩, fun b hb => .inr hb, h1, h2⟩) fun _ hb => hb

/-- A flat part in front. -/
theorem Held.pairF {M : Nat → Prop} {w0 : World} {rs : List Res} {w : World} {α β : Type} {E : Enc α} {F : Enc β} {S : Nat → Prop} {c1 c2 : List Value} {x : α} {y : β} (h : Held M w0 (rO F S c2 y :: rs) w) (hx : E.O w Nob c1 x) : Held M w0 (rO (ePr E F) S (c1 ++ c2) (x, y) :: rs) w :=
  h.turn _ (fun h2 => ⟨c1, c2, Nob, S, rfl, fun b hb => hb.elim, fun b hb => hb, hx, h2⟩) fun _ hb => hb

/-- A flat part behind. -/
theorem Held.pairB {M : Nat → Prop} {w0 : World} {rs : List Res} {w : World} {α β : Type} {E : Enc α} {F : Enc β} {S : Nat → Prop} {c1 c2 : List Value} {x : α} {y : β} (h : Held M w0 (rO E S c1 x :: rs) w) (hy : F.O w Nob c2 y) : Held M w0 (rO (ePr E F) S (c1 ++ c2) (x, y) :: rs) w :=
  h.turn _ (fun h2 => ⟨c1, c2, S, Nob, rfl, fun b hb => ⟨hb, fun h => h⟩, fun b hb => hb.elim, h2, hy⟩) fun _ hb => hb

/-- In every world that meets S, operation o yields v and does nothing else. -/
def XS (P : Program) (S : World → Prop) (L : List (Nat × Value)) (o : Oper) (v : Value) : Prop :=
  ∀ (n : Nat) (a : Act) (w : World), Env n L a → S w → (execOp a.eval o).run P w = .ok (.value v) w

abbrev Stp (P : Program) (ops : Array Oper) (Q : Exit → Act → World → Prop) (o : Oper) (a : Act) (w : World) (K : Act → World → Prop) : Prop :=
  if Region.wanted o (yielded ops a.tmps) = true then Oper.wp P o a w K Q else K (a.put o.dst undef) w

theorem wt0 {o : Oper} {ops : Array Oper} {a : Act} (hg : o.guard = none) : Region.wanted o (yielded ops a.tmps) = true := by simp [Region.wanted, hg]

theorem yielded_at {n : Nat} {L : List (Nat × Value)} {a : Act} {ops : Array Oper} {g t : Nat} {b : Bool} (hE : Env n L a) (ht : (ops[g]?).bind (·.dst) = some t) (hl : lk t L = some (.bool b)) : yielded ops a.tmps g = some b := by
  have h := hE.get t _ hl
  have hsz : a.tmps[t]? = some (.bool b) := by
    rw [Array.getD_eq_getD_getElem?] at h
    cases h' : a.tmps[t]? with
    | none => rw [h'] at h; simp [undef] at h
    | some v => rw [h'] at h; simp at h; rw [h]
  simp [yielded, ht, hsz]

theorem wtT {n : Nat} {L : List (Nat × Value)} {a : Act} {o : Oper} {ops : Array Oper} {g t : Nat} {b want : Bool} (hE : Env n L a) (hg : o.guard = some (g, want)) (ht : (ops[g]?).bind (·.dst) = some t) (hl : lk t L = some (.bool b)) (hb : b = want) : Region.wanted o (yielded ops a.tmps) = true := by
  simp [Region.wanted, hg, yielded_at hE ht hl, hb]

theorem wtF {n : Nat} {L : List (Nat × Value)} {a : Act} {o : Oper} {ops : Array Oper} {g t : Nat} {b want : Bool} (hE : Env n L a) (hg : o.guard = some (g, want)) (ht : (ops[g]?).bind (·.dst) = some t) (hl : lk t L = some (.bool b)) (hb : b = !want) : Region.wanted o (yielded ops a.tmps) = false := by
  subst hb; cases want <;> simp [Region.wanted, hg, yielded_at hE ht hl]

theorem wtU {n : Nat} {L : List (Nat × Value)} {a : Act} {o : Oper} {ops : Array Oper} {g t : Nat} {want : Bool} (hE : Env n L a) (hg : o.guard = some (g, want)) (ht : (ops[g]?).bind (·.dst) = some t) (hl : lk t L = some undef) : Region.wanted o (yielded ops a.tmps) = false := by
  have h := hE.get t _ hl
  have : yielded ops a.tmps g = none := by
    rw [Array.getD_eq_getD_getElem?] at h
    cases h' : a.tmps[t]? with
    | none => simp [yielded, ht, h']
    | some v => rw [h'] at h; simp at h; subst h; simp [yielded, ht, h', undef]
  simp [Region.wanted, hg, this]

theorem st_val {P : Program} {ops : Array Oper} {Q : Exit → Act → World → Prop} {o : Oper} {a : Act} {w w' : World} {K : Act → World → Prop} {n d : Nat} {L : List (Nat × Value)} {v : Value} (hE : Env n L a) (hw : Region.wanted o (yielded ops a.tmps) = true) (hr : (execOp a.eval o).run P w = .ok (.value v) w') (hd : o.dst = some d) (hn : Nat.blt d n = true)
    (k : ∀ a', Env n ((d, v) :: L) a' → K a' w') : Stp P ops Q o a w K := by
  unfold Stp; rw [if_pos hw]; unfold Oper.wp; rw [hr]; simp only [Oper.upon]; rw [hd]; exact k _ (hE.put hn v)

theorem st_x {P : Program} {S : World → Prop} {ops : Array Oper} {Q : Exit → Act → World → Prop} {o : Oper} {a : Act} {w : World} {K : Act → World → Prop} {n d : Nat} {L : List (Nat × Value)} {v : Value} (hE : Env n L a) (hS : S w) (hw : Region.wanted o (yielded ops a.tmps) = true) (hx : XS P S L o v) (hd : o.dst = some d) (hn : Nat.blt d n = true)
    (k : ∀ a', Env n ((d, v) :: L) a' → K a' w) : Stp P ops Q o a w K := st_val hE hw (hx _ _ _ hE hS) hd hn k

theorem st_skip {P : Program} {ops : Array Oper} {Q : Exit → Act → World → Prop} {o : Oper} {a : Act} {w w' : World} {K : Act → World → Prop} (hw : Region.wanted o (yielded ops a.tmps) = true) (hr : (execOp a.eval o).run P w = .ok .skip w') (hd : o.dst = none)
    (k : K a w') : Stp P ops Q o a w K := by
  unfold Stp; rw [if_pos hw]; unfold Oper.wp; rw [hr]; simp only [Oper.upon]; rw [hd]; exact k

theorem st_no {P : Program} {ops : Array Oper} {Q : Exit → Act → World → Prop} {o : Oper} {a : Act} {w : World} {K : Act → World → Prop} {n d : Nat} {L : List (Nat × Value)} (hE : Env n L a) (hw : Region.wanted o (yielded ops a.tmps) = false) (hd : o.dst = some d) (hn : Nat.blt d n = true)
    (k : ∀ a', Env n ((d, undef) :: L) a' → K a' w) : Stp P ops Q o a w K := by
  unfold Stp; rw [if_neg (by rw [hw]; simp), hd]; exact k _ (hE.put hn _)

def evs (L : List (Nat × Value)) : List Operand → Option (List Value)
  | [] => some []
  | x :: xs => match ev L x, evs L xs with
    | some v, some vs => some (v :: vs)
    | _, _ => none

theorem evs_map {n : Nat} {L : List (Nat × Value)} {a : Act} (hE : Env n L a) : ∀ (xs : List Operand) (vs : List Value), evs L xs = some vs → xs.map a.eval = vs
  | [], vs, h => by simp [evs] at h; subst h; rfl
  | x :: xs, vs, h => by
    simp only [evs] at h
    cases h1 : ev L x with
    | none => simp [h1] at h
    | some v =>
      cases h2 : evs L xs with
      | none => simp [h1, h2] at h
      | some us =>
        simp [h1, h2] at h
        subst h
        rw [List.map_cons, hE.ev h1, evs_map hE xs us h2]

/-- A call of a Go function by its contract. -/
theorem st_call {P : Program} {ops : Array Oper} {Q : Exit → Act → World → Prop} {o : Oper} {a : Act} {w : World} {K : Act → World → Prop} {n d F : Nat} {L : List (Nat × Value)} {f : Operand} {xs : List Operand} {ts : Array TypeId} {vs : List Value} {R : Ending → World → Prop}
    (hE : Env n L a) (hw : Region.wanted o (yielded ops a.tmps) = true) (ho : o.op = .call { callee := .value f, args := xs.toArray, argTypes := ts }) (hf : ev L f = some (.func (.func F) #[] #[])) (hx : evs L xs = some vs)
    (hen : ∀ args w, (callFunc F args).run P w = .ok (.enter F args) w) (hd : o.dst = some d) (hn : Nat.blt d n = true) (hc : Calls P F vs.toArray w R)
    (k : ∀ e w', R e w' → ∃ v, e = .returned v ∧ ∀ a', Env n ((d, v) :: L) a' → K a' w') : Stp P ops Q o a w K := by
  unfold Stp; rw [if_pos hw]; unfold Oper.wp
  have hr : (execOp a.eval o).run P w = .ok (.enter F vs.toArray) w := by
    unfold execOp
    simp only [ho, resolve, hE.ev hf, Deferred.ofValue, Sem.run_bind, Sem.run_pure, Result.andThen_ok, invoke, List.map_toArray, evs_map hE xs vs hx]
    simpa using hen vs.toArray w
  rw [hr]; simp only [Oper.upon]; rw [hd]
  refine hc.mono fun e w' hR => ?_
  obtain ⟨v, rfl, h⟩ := k e w' hR
  exact h _ (hE.put hn v)

/-- A call of a closure by its contract. -/
theorem st_callC {P : Program} {ops : Array Oper} {Q : Exit → Act → World → Prop} {o : Oper} {a : Act} {w : World} {K : Act → World → Prop} {n d F : Nat} {L : List (Nat × Value)} {f : Operand} {xs : List Operand} {ts : Array TypeId} {vs : List Value} {cap : Array Value} {R : Ending → World → Prop}
    (hE : Env n L a) (hw : Region.wanted o (yielded ops a.tmps) = true) (ho : o.op = .call { callee := .value f, args := xs.toArray, argTypes := ts }) (hf : ev L f = some (.func (.func F) #[] cap)) (hx : evs L xs = some vs)
    (hen : ∀ args w, (callFunc F args).run P w = .ok (.enter F args) w) (hd : o.dst = some d) (hn : Nat.blt d n = true) (hc : Calls P F (vs.toArray ++ cap) w R)
    (k : ∀ e w', R e w' → ∃ v, e = .returned v ∧ ∀ a', Env n ((d, v) :: L) a' → K a' w') : Stp P ops Q o a w K := by
  unfold Stp; rw [if_pos hw]; unfold Oper.wp
  have hr : (execOp a.eval o).run P w = .ok (.enter F (vs.toArray ++ cap)) w := by
    unfold execOp
    simp only [ho, resolve, hE.ev hf, Deferred.ofValue, Sem.run_bind, Sem.run_pure, Result.andThen_ok, invoke, List.map_toArray, evs_map hE xs vs hx]
    simpa using hen (vs.toArray ++ cap) w
  rw [hr]; simp only [Oper.upon]; rw [hd]
  refine hc.mono fun e w' hR => ?_
  obtain ⟨v, rfl, h⟩ := k e w' hR
  exact h _ (hE.put hn v)

theorem st_callD {P : Program} {ops : Array Oper} {Q : Exit → Act → World → Prop} {o : Oper} {a : Act} {w : World} {K : Act → World → Prop} {n d F : Nat} {L : List (Nat × Value)} {f : Operand} {xs : List Operand} {ts : Array TypeId} {vs cl us : List Value} {R : Ending → World → Prop}
    (hE : Env n L a) (hw : Region.wanted o (yielded ops a.tmps) = true) (ho : o.op = .call { callee := .value f, args := xs.toArray, argTypes := ts }) (hf : ev L f = some (.func (.func F) #[] cl.toArray)) (hx : evs L xs = some vs)
    (hen : ∀ args w, (callFunc F args).run P w = .ok (.enter F args) w) (hd : o.dst = some d) (hn : Nat.blt d n = true) (hc : Calls P F us.toArray w R)
    (k : ∀ e w', R e w' → ∃ v, e = .returned v ∧ ∀ a', Env n ((d, v) :: L) a' → K a' w') (hu : vs ++ cl = us := by rfl) : Stp P ops Q o a w K :=
  st_callC hE hw ho hf hx hen hd hn (by rw [List.append_toArray, hu]; exact hc) k

theorem rg {P : Program} {Q : Exit → Act → World → Prop} {a : Act} {w : World} {id : Nat} {l : List Oper} (h : wpList P l.toArray Q l a w) : (Code.region id l.toArray false).wp P Q a w := wp_region_lit h

theorem dr_start {P : Program} {ops : Array Oper} {Q : Exit → Act → World → Prop} {a : Act} {w : World} {id : Nat} {M : Nat → Prop} {w0 : World} {rs : List Res} (S : World → Prop) (m : Nat) (ls : Array Bool) (hm : P.follows .mixedOrders = true) (hz : ops.size = m) (hls : Array.replicate m false = ls) (hH : Held M w0 rs w) (hS : ∀ w, Held M w0 rs w → S w)
    (k : ∀ w', Held M w0 rs w' → wpAnyH P .any ops Q S m ls a w') : (Code.region id ops true).wp P Q a w := by
  refine wp_region_held_drew (S := S) hm (hS _ hH.drew) fun _ => ?_
  rw [hz, hls]; exact k _ hH.drew

theorem dr_take {P : Program} {ops : Array Oper} {Q : Exit → Act → World → Prop} {a : Act} {w : World} {S : World → Prop} {m : Nat} {ls ls' : Array Bool} {i n d : Nat} {o : Oper} {v : Value} {L : List (Nat × Value)} (hE : Env n L a) (hS : S w) (hi : ops[i]? = some o) (hs : Region.noSelect ops = true) (hf : Region.free .any ops ls i = true) (hr : (Region.ready .any ops ls).contains i = true)
    (hQ : ∀ c a w, Q (.panic c) (a.put o.dst v) w → Q (.panic c) a w) (hls : ls.setIfInBounds i true = ls') (hw : Region.wanted o (yielded ops a.tmps) = true) (hx : XS P S L o v) (hd : o.dst = some d) (hn : Nat.blt d n = true)
    (k : ∀ a', Env n ((d, v) :: L) a' → wpAnyH P .any ops Q S m ls' a' w) : wpAnyH P .any ops Q S (m + 1) ls a w := by
  refine wpAnyH_take hi hs hf hr hQ (.inl ⟨hw, fun w hS => hx _ _ _ hE hS⟩) hS ?_
  rw [hls, hd]; exact k _ (hE.put hn v)

theorem dr_takeNo {P : Program} {ops : Array Oper} {Q : Exit → Act → World → Prop} {a : Act} {w : World} {S : World → Prop} {m : Nat} {ls ls' : Array Bool} {i n d : Nat} {o : Oper} {L : List (Nat × Value)} (hE : Env n L a) (hS : S w) (hi : ops[i]? = some o) (hs : Region.noSelect ops = true) (hf : Region.free .any ops ls i = true) (hr : (Region.ready .any ops ls).contains i = true)
    (hQ : ∀ c a w, Q (.panic c) (a.put o.dst undef) w → Q (.panic c) a w) (hls : ls.setIfInBounds i true = ls') (hw : Region.wanted o (yielded ops a.tmps) = false) (hd : o.dst = some d) (hn : Nat.blt d n = true)
    (k : ∀ a', Env n ((d, undef) :: L) a' → wpAnyH P .any ops Q S m ls' a' w) : wpAnyH P .any ops Q S (m + 1) ls a w := by
  refine wpAnyH_take hi hs hf hr hQ (.inr ⟨hw, rfl⟩) hS ?_
  rw [hls, hd]; exact k _ (hE.put hn undef)

theorem dr_one {P : Program} {ops : Array Oper} {Q : Exit → Act → World → Prop} {a : Act} {w : World} {S : World → Prop} {m : Nat} {ls ls' : Array Bool} {i : Nat} {o : Oper} (hi : ops[i]? = some o) (hr : Region.ready .any ops ls = [i]) (hls : ls.setIfInBounds i true = ls')
    (k : ∀ K : Act → World → Prop, (∀ a w, S w → wpAnyH P .any ops Q S m ls' a w → K a w) → Stp P ops Q o a w K) : wpAnyH P .any ops Q S (m + 1) ls a w := by
  subst hls
  exact wpAnyH_ready hr (by simp) (AllReadyH.cons hi (fun K hK => k K fun a w hS hW => hK.out a w hS fun _ => hW) AllReadyH.nil)

theorem dr_two {P : Program} {ops : Array Oper} {Q : Exit → Act → World → Prop} {a : Act} {w : World} {S : World → Prop} {m : Nat} {ls ls' ls'' : Array Bool} {i j : Nat} {o o' : Oper} (hi : ops[i]? = some o) (hj : ops[j]? = some o') (hr : Region.ready .any ops ls = [i, j]) (hls : ls.setIfInBounds i true = ls') (hls' : ls.setIfInBounds j true = ls'')
    (k : ∀ K : Act → World → Prop, (∀ a w, S w → wpAnyH P .any ops Q S m ls' a w → K a w) → Stp P ops Q o a w K)
    (k' : ∀ K : Act → World → Prop, (∀ a w, S w → wpAnyH P .any ops Q S m ls'' a w → K a w) → Stp P ops Q o' a w K) : wpAnyH P .any ops Q S (m + 1) ls a w := by
  subst hls hls'
  exact wpAnyH_ready hr (by simp) (AllReadyH.cons hi (fun K hK => k K fun a w hS hW => hK.out a w hS fun _ => hW) (AllReadyH.cons hj (fun K hK => k' K fun a w hS hW => hK.out a w hS fun _ => hW) AllReadyH.nil))

theorem dr_done {P : Program} {ops : Array Oper} {Q : Exit → Act → World → Prop} {a : Act} {w : World} {S : World → Prop} {m : Nat} {ls : Array Bool} (hr : Region.ready .any ops ls = []) (h : Q .normal a w) : wpAnyH P .any ops Q S m ls a w := wpAnyH_done hr h m

theorem cndT {P : Program} {Q : Exit → Act → World → Prop} {a : Act} {w : World} {c : Operand} {x y : Code} {t : Bool} {n : Nat} {L : List (Nat × Value)} (hE : Env n L a) (hc : ev L c = some (.bool t)) (ht : t = true) (h : x.wp P Q a w) : (Code.cond c x y).wp P Q a w := wp_cond_true (by rw [hE.ev hc, ht]) h

theorem cndF {P : Program} {Q : Exit → Act → World → Prop} {a : Act} {w : World} {c : Operand} {x y : Code} {t : Bool} {n : Nat} {L : List (Nat × Value)} (hE : Env n L a) (hc : ev L c = some (.bool t)) (ht : t = false) (h : y.wp P Q a w) : (Code.cond c x y).wp P Q a w := wp_cond_false (by rw [hE.ev hc, ht]) h

theorem blk_hit {Q : Exit → Act → World → Prop} {a : Act} {w : World} {id : Nat} (h : Q .normal a w) : Exit.inBlock id Q (.exit id) a w := by simpa [Exit.inBlock] using h

theorem lp {P : Program} {Q : Exit → Act → World → Prop} {a : Act} {w : World} {c : Code} (I : Nat → Act → World → Prop) (m : Nat) (h0 : I m a w)
    (round : ∀ m a w, I m a w → c.wp P (Exit.then (fun a' w' => ∃ m', m' < m ∧ I m' a' w') Q) a w) : (Code.loop c).wp P Q a w := wp_loop_ghost I m h0 round

def argL : Nat → List Value → List (Nat × Value)
  | _, [] => []
  | i, v :: vs => (i, v) :: argL (i + 1) vs

theorem lk_argL : ∀ (vs : List Value) (i t : Nat) (v : Value), lk t (argL i vs) = some v → i ≤ t ∧ vs[t - i]? = some v
  | [], _, _, _, h => by cases h
  | u :: vs, i, t, v, h => by
    simp only [argL, lk] at h
    by_cases e : Nat.beq t i = true
    · have e' := Nat.eq_of_beq_eq_true e
      subst e'
      simp at h; subst h
      exact ⟨Nat.le_refl _, by simp⟩
    · have e' : Nat.beq t i = false := Bool.eq_false_iff.2 e
      rw [e'] at h
      obtain ⟨h1, h2⟩ := lk_argL vs (i + 1) t v h
      refine ⟨by omega, ?_⟩
      rw [show t - i = (t - (i + 1)) + 1 from by omega, List.getElem?_cons_succ]; exact h2

theorem enter {P : Program} {f : FuncId} {fn : Func} {c : Code} {vs : List Value} {w : World} {R : Ending → World → Prop} {n : Nat} (hf : P.funcs[f]? = some fn) (hb : fn.body = some c) (hn : fn.ntmps = n) (hl : Nat.ble vs.length n = true)
    (k : ∀ a, Env n (argL 0 vs) a → c.wp P (bodyPost P fn R) a w) : Calls P f vs.toArray w R := by
  refine calls_of_wp hf hb (k _ ?_)
  rw [hn]
  refine Env.start (fun t v h => ?_) (Nat.le_of_ble_eq_true hl)
  have := (lk_argL vs 0 t v h).2
  simpa using this

def resSem (tmps : Array Value) : ResultVar → Sem Value
  | .tmp t => pure (tmps.getD t undef)
  | .cell a t => do loadVar t (← asAddr (tmps.getD a undef))

theorem results_eq (fn : Func) (tmps : Array Value) : results fn tmps = (do let vs ← fn.results.mapM (resSem tmps); pure (if h : vs.size = 1 then vs[0] else .tuple vs)) := by
  unfold results
  have : (fun r => match r with | ResultVar.tmp t => (pure (tmps.getD t undef) : Sem Value) | ResultVar.cell a t => do loadVar t (← asAddr (tmps.getD a undef))) = resSem tmps := by
    funext r; cases r <;> rfl
  rw [← this]; rfl

/-- What one result is. -/
def RV (P : Program) (w : World) (L : List (Nat × Value)) (r : ResultVar) (v : Value) : Prop :=
  ∀ (n : Nat) (a : Act), Env n L a → (resSem a.tmps r).run P w = .ok v w

theorem rv_tmp {P : Program} {w : World} {L : List (Nat × Value)} {t : Nat} {v : Value} (h : lk t L = some v) : RV P w L (.tmp t) v := fun _ _ hE => by
  show (Sem.pure _).run P w = _
  rw [hE.get t v h]; rfl

theorem rv_cell {P : Program} {w : World} {L : List (Nat × Value)} {ad : Nat} {t : TypeId} {p : Addr} {v : Value} (h : lk ad L = some (.pointer (some p))) (hl : (loadVar t p).run P w = .ok v w) : RV P w L (.cell ad t) v := fun _ _ hE => by
  show ((do loadVar t (← asAddr _)) : Sem Value).run P w = _
  rw [hE.get ad _ h]; simpa [asAddr] using hl

theorem ret1 {P : Program} {fn : Func} {R : Ending → World → Prop} {a : Act} {w : World} {n : Nat} {L : List (Nat × Value)} {r1 : ResultVar} {v1 : Value} (hE : Env n L a) (hr : fn.results = #[r1]) (h1 : RV P w L r1 v1) (hR : R (.returned v1) w) : bodyPost P fn R .ret a w := by
  refine ⟨hE.defers, v1, ?_, hR⟩
  rw [results_eq, hr]
  have h1 := h1 n a hE
  generalize resSem a.tmps = F at *
  simp [h1]

theorem ret2 {P : Program} {fn : Func} {R : Ending → World → Prop} {a : Act} {w : World} {n : Nat} {L : List (Nat × Value)} {r1 r2 : ResultVar} {v1 v2 : Value} (hE : Env n L a) (hr : fn.results = #[r1, r2]) (h1 : RV P w L r1 v1) (h2 : RV P w L r2 v2) (hR : R (.returned (.tuple #[v1, v2])) w) : bodyPost P fn R .ret a w := by
  refine ⟨hE.defers, _, ?_, hR⟩
  rw [results_eq, hr]
  have h1 := h1 n a hE
  have h2 := h2 n a hE
  generalize resSem a.tmps = F at *
  simp [h1, h2]

theorem ret0 {P : Program} {fn : Func} {R : Ending → World → Prop} {a : Act} {w : World} {n : Nat} {L : List (Nat × Value)} (hE : Env n L a) (hr : fn.results = #[]) (hR : R (.returned (.tuple #[])) w) : bodyPost P fn R .ret a w := by
  refine ⟨hE.defers, _, ?_, hR⟩
  unfold results
  rw [hr]
  simp

theorem fin0 {P : Program} {fn : Func} {R : Ending → World → Prop} {a : Act} {w : World} {n : Nat} {L : List (Nat × Value)} (hE : Env n L a) (hr : fn.results = #[]) (hR : R (.returned (.tuple #[])) w) : bodyPost P fn R .normal a w := by
  refine ⟨hE.defers, _, ?_, hR⟩
  unfold results
  rw [hr]
  simp

theorem nrm {next : Act → World → Prop} {Q : Exit → Act → World → Prop} {a : Act} {w : World} (h : next a w) : Exit.then next Q .normal a w := h

theorem thn_ret {next : Act → World → Prop} {Q : Exit → Act → World → Prop} {a : Act} {w : World} (h : Q .ret a w) : Exit.then next Q .ret a w := h

theorem thn_exit {next : Act → World → Prop} {Q : Exit → Act → World → Prop} {a : Act} {w : World} {id : Nat} (h : Q (.exit id) a w) : Exit.then next Q (.exit id) a w := h

theorem blk_n {Q : Exit → Act → World → Prop} {a : Act} {w : World} {id : Nat} (h : Q .normal a w) : Exit.inBlock id Q .normal a w := h

theorem blk_ret {Q : Exit → Act → World → Prop} {a : Act} {w : World} {id : Nat} (h : Q .ret a w) : Exit.inBlock id Q .ret a w := h

theorem cnd_b {P : Program} {Q : Exit → Act → World → Prop} {a : Act} {w : World} {c : Operand} {x y : Code} {t : Bool} {n : Nat} {L : List (Nat × Value)} (hE : Env n L a) (hc : ev L c = some (.bool t)) (ht : t = true → x.wp P Q a w) (hf : t = false → y.wp P Q a w) : (Code.cond c x y).wp P Q a w := wp_cond_split (hE.ev hc) ht hf

theorem cnd_nb {P : Program} {Q : Exit → Act → World → Prop} {a : Act} {w : World} {c : Operand} {x y : Code} {t : Bool} {n : Nat} {L : List (Nat × Value)} (hE : Env n L a) (hc : ev L c = some (.bool !t)) (ht : t = false → x.wp P Q a w) (hf : t = true → y.wp P Q a w) : (Code.cond c x y).wp P Q a w := wp_cond_split (hE.ev hc) (fun h => ht (by simpa using h)) (fun h => hf (by simpa using h))

theorem cnd_d {P : Program} {Q : Exit → Act → World → Prop} {a : Act} {w : World} {c : Operand} {x y : Code} {p : Prop} [Decidable p] {n : Nat} {L : List (Nat × Value)} (hE : Env n L a) (hc : ev L c = some (.bool (decide p))) (ht : p → x.wp P Q a w) (hf : ¬ p → y.wp P Q a w) : (Code.cond c x y).wp P Q a w := wp_cond_split (hE.ev hc) (fun h => ht (of_decide_eq_true h)) (fun h => hf (of_decide_eq_false h))

theorem cnd_nd {P : Program} {Q : Exit → Act → World → Prop} {a : Act} {w : World} {c : Operand} {x y : Code} {p : Prop} [Decidable p] {n : Nat} {L : List (Nat × Value)} (hE : Env n L a) (hc : ev L c = some (.bool !decide p)) (ht : ¬ p → x.wp P Q a w) (hf : p → y.wp P Q a w) : (Code.cond c x y).wp P Q a w := wp_cond_split (hE.ev hc) (fun h => ht (by simpa using h)) (fun h => hf (by simpa using h))

theorem cnd_e {P : Program} {Q : Exit → Act → World → Prop} {a : Act} {w : World} {c : Operand} {x y : Code} {m k : Int} {n : Nat} {L : List (Nat × Value)} (hE : Env n L a) (hc : ev L c = some (.bool (m == k))) (ht : m = k → x.wp P Q a w) (hf : ¬ m = k → y.wp P Q a w) : (Code.cond c x y).wp P Q a w := wp_cond_split (hE.ev hc) (fun h => ht (by simpa using h)) (fun h => hf (by simpa using h))

theorem cnd_ne {P : Program} {Q : Exit → Act → World → Prop} {a : Act} {w : World} {c : Operand} {x y : Code} {m k : Int} {n : Nat} {L : List (Nat × Value)} (hE : Env n L a) (hc : ev L c = some (.bool (m != k))) (ht : ¬ m = k → x.wp P Q a w) (hf : m = k → y.wp P Q a w) : (Code.cond c x y).wp P Q a w := wp_cond_split (hE.ev hc) (fun h => ht (by simpa using h)) (fun h => hf (by simpa using h))

theorem beq_t {m k : Int} (h : m = k) : (m == k) = true := by simp [h]

theorem beq_f {m k : Int} (h : ¬ m = k) : (m == k) = false := by simp [h]

theorem bne_t {m k : Int} (h : ¬ m = k) : (m != k) = true := by simp [h]

theorem bne_f {m k : Int} (h : m = k) : (m != k) = false := by simp [h]

theorem not_t {b : Bool} (h : b = false) : (!b) = true := by simp [h]

theorem not_f {b : Bool} (h : b = true) : (!b) = false := by simp [h]

theorem pl {P : Program} {ops : Array Oper} {Q : Exit → Act → World → Prop} {o : Oper} {rest : List Oper} {a : Act} {w : World} (h : ∀ K : Act → World → Prop, (∀ a w, wpList P ops Q rest a w → K a w) → Stp P ops Q o a w K) : wpList P ops Q (o :: rest) a w := wpList_step h

theorem pl_x {P : Program} {S : World → Prop} {ops : Array Oper} {Q : Exit → Act → World → Prop} {o : Oper} {rest : List Oper} {a : Act} {w : World} {n d : Nat} {L : List (Nat × Value)} {v : Value} (hE : Env n L a) (hS : S w) (hw : Region.wanted o (yielded ops a.tmps) = true) (hx : XS P S L o v) (hd : o.dst = some d) (hn : Nat.blt d n = true)
    (k : ∀ a', Env n ((d, v) :: L) a' → wpList P ops Q rest a' w) : wpList P ops Q (o :: rest) a w := pl fun _ hK => st_x hE hS hw hx hd hn fun a' hE' => hK _ _ (k a' hE')

theorem pl_no {P : Program} {ops : Array Oper} {Q : Exit → Act → World → Prop} {o : Oper} {rest : List Oper} {a : Act} {w : World} {n d : Nat} {L : List (Nat × Value)} (hE : Env n L a) (hw : Region.wanted o (yielded ops a.tmps) = false) (hd : o.dst = some d) (hn : Nat.blt d n = true)
    (k : ∀ a', Env n ((d, undef) :: L) a' → wpList P ops Q rest a' w) : wpList P ops Q (o :: rest) a w := pl fun _ hK => st_no hE hw hd hn fun a' hE' => hK _ _ (k a' hE')

/-- The ways through a piece of code meet again. -/
theorem wp_join {P : Program} {c : Code} {Q : Exit → Act → World → Prop} {a : Act} {w : World} (J : Act → World → Prop) (h1 : c.wp P (Exit.then J Q) a w) (h2 : ∀ a w, J a w → Q .normal a w) : c.wp P Q a w := by
  refine wp_mono h1 fun e a w h => ?_
  cases e with
  | normal => exact h2 a w h
  | exit id => exact h
  | goto l => exact h
  | ret => exact h
  | panic ch => exact h
  | outgrown => exact h

theorem dr_three {P : Program} {ops : Array Oper} {Q : Exit → Act → World → Prop} {a : Act} {w : World} {S : World → Prop} {m : Nat} {ls l1 l2 l3 : Array Bool} {i j k : Nat} {o o' o'' : Oper} (hi : ops[i]? = some o) (hj : ops[j]? = some o') (hk : ops[k]? = some o'') (hr : Region.ready .any ops ls = [i, j, k]) (hls : ls.setIfInBounds i true = l1) (hls' : ls.setIfInBounds j true = l2) (hls'' : ls.setIfInBounds k true = l3)
    (k1 : ∀ K : Act → World → Prop, (∀ a w, S w → wpAnyH P .any ops Q S m l1 a w → K a w) → Stp P ops Q o a w K)
    (k2 : ∀ K : Act → World → Prop, (∀ a w, S w → wpAnyH P .any ops Q S m l2 a w → K a w) → Stp P ops Q o' a w K)
    (k3 : ∀ K : Act → World → Prop, (∀ a w, S w → wpAnyH P .any ops Q S m l3 a w → K a w) → Stp P ops Q o'' a w K) : wpAnyH P .any ops Q S (m + 1) ls a w := by
  subst hls hls' hls''
  exact wpAnyH_ready hr (by simp) (AllReadyH.cons hi (fun K hK => k1 K fun a w hS hW => hK.out a w hS fun _ => hW) (AllReadyH.cons hj (fun K hK => k2 K fun a w hS hW => hK.out a w hS fun _ => hW) (AllReadyH.cons hk (fun K hK => k3 K fun a w hS hW => hK.out a w hS fun _ => hW) AllReadyH.nil)))

theorem x_move {P : Program} {S : World → Prop} {L : List (Nat × Value)} {d : Option Tmp} {x : Operand} {v : Value} {ty : TypeId} {pos : String} {af : Array Edge} {g : Option (Nat × Bool)} (hx : ev L x = some v) : XS P S L ⟨d, .move x, ty, pos, af, g⟩ v := fun _ _ _ hE _ => by simp [execOp, hE.ev hx]

theorem x_assign {P : Program} {S : World → Prop} {L : List (Nat × Value)} {d : Option Tmp} {x : Operand} {v : Value} {ty : TypeId} {pos : String} {af : Array Edge} {g : Option (Nat × Bool)} (hx : ev L x = some v) : XS P S L ⟨d, .assign x, ty, pos, af, g⟩ v := fun _ _ _ hE _ => by simp [execOp, hE.ev hx]

theorem x_pickT {P : Program} {S : World → Prop} {L : List (Nat × Value)} {d : Option Tmp} {c x y : Operand} {b : Bool} {v : Value} {ty : TypeId} {pos : String} {af : Array Edge} {g : Option (Nat × Bool)} (hc : ev L c = some (.bool b)) (hb : b = true) (hx : ev L x = some v) : XS P S L ⟨d, .pick c x y, ty, pos, af, g⟩ v := fun _ _ _ hE _ => by subst hb; simp [execOp, hE.ev hx, hE.ev hc, asBool]

theorem x_pickF {P : Program} {S : World → Prop} {L : List (Nat × Value)} {d : Option Tmp} {c x y : Operand} {b : Bool} {v : Value} {ty : TypeId} {pos : String} {af : Array Edge} {g : Option (Nat × Bool)} (hc : ev L c = some (.bool b)) (hb : b = false) (hy : ev L y = some v) : XS P S L ⟨d, .pick c x y, ty, pos, af, g⟩ v := fun _ _ _ hE _ => by subst hb; simp [execOp, hE.ev hy, hE.ev hc, asBool]

theorem x_not {P : Program} {S : World → Prop} {L : List (Nat × Value)} {d : Option Tmp} {t : TypeId} {x : Operand} {b : Bool} {ty : TypeId} {pos : String} {af : Array Edge} {g : Option (Nat × Bool)} (hx : ev L x = some (.bool b)) : XS P S L ⟨d, .unOp .not t x, ty, pos, af, g⟩ (.bool !b) := fun _ _ _ hE _ => by simp [execOp, hE.ev hx, Op.unary]

theorem x_add {P : Program} {S : World → Prop} {L : List (Nat × Value)} {d : Option Tmp} {t t' : TypeId} {x y : Operand} {m k : Int} {ty : TypeId} {pos : String} {af : Array Edge} {g : Option (Nat × Bool)} (hx : ev L x = some (.int .i64 m)) (hy : ev L y = some (.int .i64 k)) (h : I64 (m + k)) : XS P S L ⟨d, .binOp .add t x y t', ty, pos, af, g⟩ (.int .i64 (m + k)) := fun _ _ _ hE _ => by
  have e : IntKind.i64.wrap (m + k) = m + k := IntWalk.i64_in _ (by unfold I64 at h; omega)
  simp only [execOp, hE.ev hx, hE.ev hy, eqGuard, binOp, Op.intArith, e]; rfl

theorem x_sub {P : Program} {S : World → Prop} {L : List (Nat × Value)} {d : Option Tmp} {t t' : TypeId} {x y : Operand} {m k : Int} {ty : TypeId} {pos : String} {af : Array Edge} {g : Option (Nat × Bool)} (hx : ev L x = some (.int .i64 m)) (hy : ev L y = some (.int .i64 k)) (h : I64 (m - k)) : XS P S L ⟨d, .binOp .sub t x y t', ty, pos, af, g⟩ (.int .i64 (m - k)) := fun _ _ _ hE _ => by
  have e : IntKind.i64.wrap (m - k) = m - k := IntWalk.i64_in _ (by unfold I64 at h; omega)
  simp only [execOp, hE.ev hx, hE.ev hy, eqGuard, binOp, Op.intArith, e]; rfl

theorem x_lss {P : Program} {S : World → Prop} {L : List (Nat × Value)} {d : Option Tmp} {t t' : TypeId} {x y : Operand} {q : IntKind} {m k : Int} {ty : TypeId} {pos : String} {af : Array Edge} {g : Option (Nat × Bool)} (hx : ev L x = some (.int q m)) (hy : ev L y = some (.int q k)) : XS P S L ⟨d, .binOp .lss t x y t', ty, pos, af, g⟩ (.bool (decide (m < k))) := fun _ _ _ hE _ => by
  simp [execOp, hE.ev hx, hE.ev hy, eqGuard, binOp, Op.intCmp]

theorem x_gtr {P : Program} {S : World → Prop} {L : List (Nat × Value)} {d : Option Tmp} {t t' : TypeId} {x y : Operand} {q : IntKind} {m k : Int} {ty : TypeId} {pos : String} {af : Array Edge} {g : Option (Nat × Bool)} (hx : ev L x = some (.int q m)) (hy : ev L y = some (.int q k)) : XS P S L ⟨d, .binOp .gtr t x y t', ty, pos, af, g⟩ (.bool (decide (k < m))) := fun _ _ _ hE _ => by
  simp [execOp, hE.ev hx, hE.ev hy, eqGuard, binOp, Op.intCmp]

theorem x_geq {P : Program} {S : World → Prop} {L : List (Nat × Value)} {d : Option Tmp} {t t' : TypeId} {x y : Operand} {q : IntKind} {m k : Int} {ty : TypeId} {pos : String} {af : Array Edge} {g : Option (Nat × Bool)} (hx : ev L x = some (.int q m)) (hy : ev L y = some (.int q k)) : XS P S L ⟨d, .binOp .geq t x y t', ty, pos, af, g⟩ (.bool (decide (k ≤ m))) := fun _ _ _ hE _ => by
  simp [execOp, hE.ev hx, hE.ev hy, eqGuard, binOp, Op.intCmp]

theorem x_eql {P : Program} {S : World → Prop} {L : List (Nat × Value)} {d : Option Tmp} {t t' : TypeId} {x y : Operand} {q : IntKind} {m k : Int} {ty : TypeId} {pos : String} {af : Array Edge} {g : Option (Nat × Bool)} (hx : ev L x = some (.int q m)) (hy : ev L y = some (.int q k)) : XS P S L ⟨d, .binOp .eql t x y t', ty, pos, af, g⟩ (.bool (m == k)) := fun _ _ _ hE _ => by
  simp [execOp, hE.ev hx, hE.ev hy, eqGuard, binOp, Op.intCmp]

theorem x_neq {P : Program} {S : World → Prop} {L : List (Nat × Value)} {d : Option Tmp} {t t' : TypeId} {x y : Operand} {q : IntKind} {m k : Int} {ty : TypeId} {pos : String} {af : Array Edge} {g : Option (Nat × Bool)} (hx : ev L x = some (.int q m)) (hy : ev L y = some (.int q k)) : XS P S L ⟨d, .binOp .neq t x y t', ty, pos, af, g⟩ (.bool (m != k)) := fun _ _ _ hE _ => by
  simp [execOp, hE.ev hx, hE.ev hy, eqGuard, binOp, Op.intCmp]

theorem x_nilCheck {P : Program} {S : World → Prop} {L : List (Nat × Value)} {d : Option Tmp} {x : Operand} {p : Addr} {ty : TypeId} {pos : String} {af : Array Edge} {g : Option (Nat × Bool)} (hx : ev L x = some (.pointer (some p))) : XS P S L ⟨d, .nilCheck x, ty, pos, af, g⟩ (.pointer (some p)) := fun _ _ _ hE _ => by simp [execOp, hE.ev hx]

theorem x_makeFunc {P : Program} {S : World → Prop} {L : List (Nat × Value)} {d : Option Tmp} {f : Fn} {fi ca : List Operand} {fv cv : List Value} {ty : TypeId} {pos : String} {af : Array Edge} {g : Option (Nat × Bool)} (hf : evs L fi = some fv) (hc : evs L ca = some cv) : XS P S L ⟨d, .makeFunc f fi.toArray ca.toArray, ty, pos, af, g⟩ (.func f fv.toArray cv.toArray) := fun _ _ _ hE _ => by
  simp [execOp, evs_map hE _ _ hf, evs_map hE _ _ hc, Instr.makeFunc]

theorem x_extract {P : Program} {S : World → Prop} {L : List (Nat × Value)} {d : Option Tmp} {x : Operand} {i : Nat} {vs : List Value} {v : Value} {ty : TypeId} {pos : String} {af : Array Edge} {g : Option (Nat × Bool)} (hx : ev L x = some (.tuple vs.toArray)) (hi : vs[i]? = some v) : XS P S L ⟨d, .extract x i, ty, pos, af, g⟩ v := fun _ _ _ hE _ => by
  simp [execOp, hE.ev hx, Instr.extract, hi]

theorem x_len {P : Program} {S : World → Prop} {L : List (Nat × Value)} {d : Option Tmp} {x : Operand} {t e : TypeId} {A : Option Addr} {n c : Nat} {ty : TypeId} {pos : String} {af : Array Edge} {g : Option (Nat × Bool)} (ht : P.underlying t = some (.slice e)) (hx : ev L x = some (.slice A n c)) : XS P S L ⟨d, .call { callee := .builtin .len, args := #[x], argTypes := #[t] }, ty, pos, af, g⟩ (.int .i64 n) := fun _ _ _ hE _ => by
  simp [execOp, resolve, invoke, builtin, Builtin.len_, run_underlying ht, hE.ev hx, goInt]

theorem x_fieldAddr {P : Program} {S : World → Prop} {L : List (Nat × Value)} {d : Option Tmp} {x : Operand} {t : TypeId} {f b o fo : Nat} {ty : TypeId} {pos : String} {af : Array Edge} {g : Option (Nat × Bool)} (hfa : ∀ b o w, (Instr.fieldAt t (.pointer (some ⟨b, o, none⟩)) f).run P w = .ok (.pointer (some ⟨b, o + fo, none⟩)) w) (hx : ev L x = some (.pointer (some ⟨b, o, none⟩))) : XS P S L ⟨d, .fieldAddr t x f, ty, pos, af, g⟩ (.pointer (some ⟨b, o + fo, none⟩)) := fun _ _ w hE _ => by
  simp [execOp, hE.ev hx, hfa]

theorem fieldAt_of {P : Program} {t : TypeId} {fs : Array Field} {f : Nat} {fl : Field} {i : TypeInfo} (hu : P.underlying t = some (.struct fs)) (hf : fs[f]? = some fl) (hi : P.info? fl.type = some i) (hz : i.size ≠ 0) (b o : Nat) (w : World) : (Instr.fieldAt t (.pointer (some ⟨b, o, none⟩)) f).run P w = .ok (.pointer (some ⟨b, o + fl.offset, none⟩)) w := by
  simp [Instr.fieldAt, run_underlying hu, hf, Instr.sureAddr, fieldPlace, sizeOf, typeInfo, hi, hz, add_none]

/-- What is known of a slice type. -/
structure TSl (P : Program) (t e : TypeId) (sz bytes : Nat) : Prop where
  under : P.underlying t = some (.slice e)
  info : ∃ i z, P.info? e = some i ∧ i.zero = some z ∧ i.size = sz ∧ i.bytes = bytes ∧ z.cells.size = sz

theorem x_indexAddr {P : Program} {S : World → Prop} {L : List (Nat × Value)} {d : Option Tmp} {x y : Operand} {t e : TypeId} {sz by_ : Nat} {A : Option Addr} {n c b off k : Nat} {q : IntKind} {m : Int} {ty : TypeId} {pos : String} {af : Array Edge} {g : Option (Nat × Bool)} (ht : TSl P t e sz by_) (hx : ev L x = some (.slice A n c)) (hy : ev L y = some (.int q m)) (hA : A = some ⟨b, off, none⟩) (hm : m = (k : Int)) (hk : k < n) : XS P S L ⟨d, .indexAddr t x y, ty, pos, af, g⟩ (.pointer (some ⟨b, off + k * sz, none⟩)) := fun _ _ w hE _ => by
  obtain ⟨i, z, h1, _, h2, _⟩ := ht.info
  subst hA hm h2
  have h3 : (0 : Int) ≤ (k : Int) ∧ (k : Int) < (n : Int) := by omega
  simp [execOp, hE.ev hx, hE.ev hy, Instr.indexAt, asIntOf, run_underlying ht.under, sizeOf, typeInfo, h1, hk, add_none]

def isAggD : TypeDesc → Bool
  | .struct _ => true
  | .array _ _ => true
  | _ => false

/-- What is known of a variable's type: its cells, what they hold at first. -/
structure TV (P : Program) (t : TypeId) (agg : Bool) (zs : List Value) : Prop where
  under : ∃ d, P.underlying t = some d ∧ isAggD d = agg
  info : ∃ i z, P.info? t = some i ∧ i.zero = some z ∧ i.size = zs.length ∧ z.cells = zs.toArray

theorem TV.isAgg {P : Program} {t : TypeId} {agg : Bool} {zs : List Value} (h : TV P t agg zs) (w : World) : (Go.isAgg t).run P w = .ok agg w := by
  obtain ⟨d, h1, h2⟩ := h.under
  subst h2
  unfold Go.isAgg
  cases d <;> simp [run_underlying h1, isAggD]

theorem TV.load1 {P : Program} {t : TypeId} {zs : List Value} (h : TV P t false zs) {p : Addr} {w : World} {v : Value} (hc : w.cell? p = some v) : (loadVar t p).run P w = .ok v w := by
  unfold loadVar
  simp [h.isAgg w, hc]

theorem run_loadCellsFrom {P : Program} {w : World} {b o : Nat} : ∀ (cs : List Value) (i : Nat) (acc : Array Value), (∀ j v, cs[j]? = some v → w.cell? ⟨b, o + (i + j), none⟩ = some v) → (loadCellsFrom ⟨b, o, none⟩ i cs.length acc).run P w = .ok (acc ++ cs.toArray) w
  | [], i, acc, _ => by simp [loadCellsFrom]
  | v :: cs, i, acc, h => by
    have h0 := h 0 v rfl
    rw [Nat.add_zero] at h0
    have ih := run_loadCellsFrom (P := P) cs (i + 1) (acc.push v) fun j u hu => by
      have := h (j + 1) u (by simpa using hu)
      rw [show i + (j + 1) = i + 1 + j from by omega] at this; exact this
    rw [List.length_cons]
    simp only [loadCellsFrom, Go.load, add_none, Sem.run_bind, Sem.run, h0, Result.andThen_ok, ih]
    simp

theorem TV.loadN {P : Program} {t : TypeId} {zs cs : List Value} (h : TV P t true zs) {b o : Nat} {w : World} (hl : cs.length = zs.length) (hc : ∀ j v, cs[j]? = some v → w.cell? ⟨b, o + j, none⟩ = some v) : (loadVar t ⟨b, o, none⟩).run P w = .ok (.agg cs.toArray) w := by
  obtain ⟨i, z, h1, h2, h3, h4⟩ := h.info
  have hL := run_loadCellsFrom (P := P) (w := w) (b := b) (o := o) cs 0 #[] (fun j v hv => by rw [Nat.zero_add]; exact hc j v hv)
  unfold loadVar loadCells
  simp only [Sem.run_bind, h.isAgg w, Result.andThen_ok, sizeOf, typeInfo]
  simp [h1, h3, ← hl, hL]

theorem x_load1 {P : Program} {S : World → Prop} {L : List (Nat × Value)} {d : Option Tmp} {x : Operand} {t : TypeId} {zs : List Value} {p : Addr} {v : Value} {ty : TypeId} {pos : String} {af : Array Edge} {g : Option (Nat × Bool)} (ht : TV P t false zs) (hx : ev L x = some (.pointer (some p))) (hc : ∀ w, S w → w.cell? p = some v) : XS P S L ⟨d, .load t x, ty, pos, af, g⟩ v := fun _ _ w hE hS => by
  simp [execOp, hE.ev hx, Instr.loadAt, Instr.sureAddr, ht.load1 (hc w hS)]

theorem x_loadN {P : Program} {S : World → Prop} {L : List (Nat × Value)} {d : Option Tmp} {x : Operand} {t : TypeId} {zs cs : List Value} {b o : Nat} {ty : TypeId} {pos : String} {af : Array Edge} {g : Option (Nat × Bool)} (ht : TV P t true zs) (hx : ev L x = some (.pointer (some ⟨b, o, none⟩))) (hl : cs.length = zs.length) (hc : ∀ w, S w → ∀ j v, cs[j]? = some v → w.cell? ⟨b, o + j, none⟩ = some v) : XS P S L ⟨d, .load t x, ty, pos, af, g⟩ (.agg cs.toArray) := fun _ _ w hE hS => by
  simp [execOp, hE.ev hx, Instr.loadAt, Instr.sureAddr, ht.loadN hl (hc w hS)]

/-- What a held block's cell holds. -/
theorem c_blk {M : Nat → Prop} {w0 : World} {rs : List Res} {g : Nat} {t : TypeId} {cs : List Value} {v : Value} {o : Nat} (i : Nat) (hi : rs[i]? = some (rBlk g t cs)) (hv : cs[o]? = some v) : ∀ w, Held M w0 rs w → w.cell? ⟨g, o, none⟩ = some v := fun w h => by
  have h1 : Blk w g t cs.toArray := h.get hi
  rw [h1.cell]; simpa using hv

theorem c_blkN {M : Nat → Prop} {w0 : World} {rs : List Res} {g : Nat} {t : TypeId} {cs : List Value} (i : Nat) (hi : rs[i]? = some (rBlk g t cs)) : ∀ w, Held M w0 rs w → ∀ j v, cs[j]? = some v → w.cell? ⟨g, 0 + j, none⟩ = some v := fun w h j v hv => by
  rw [Nat.zero_add]; exact c_blk i hi hv w h

/-- What a cell held at the start. -/
theorem c_old {w0 : World} {rs : List Res} {b o : Nat} {v : Value} (hc : w0.cell? ⟨b, o, none⟩ = some v) : ∀ w, Held Nob w0 rs w → w.cell? ⟨b, o, none⟩ = some v := fun w h => by
  rw [h.cell0 (lt_of_cell hc) fun h => h]; exact hc

theorem c_oldN {w0 : World} {rs : List Res} {b o : Nat} {cs : List Value} (hc : ∀ j v, cs[j]? = some v → w0.cell? ⟨b, o + j, none⟩ = some v) : ∀ w, Held Nob w0 rs w → ∀ j v, cs[j]? = some v → w.cell? ⟨b, o + j, none⟩ = some v := fun w h j v hv => c_old (hc j v hv) w h

/-- An element of a slice that was there at the start. -/
theorem el_old {w0 : World} {α : Type} {E : Enc α} {A : Option Addr} {c : Nat} {xs : List α} (h : Sl E w0 (Old w0) A c xs) {k : Nat} (hk : k < xs.length) :
    ∃ b off es, A = some ⟨b, off, none⟩ ∧ E.R w0 (Old w0) es xs[k] ∧ ∀ j v, es[j]? = some v → w0.cell? ⟨b, off + k * E.size + j, none⟩ = some v := by
  obtain ⟨b, off, es, h1, _, h2, h3⟩ := h.at hk
  exact ⟨b, off, es, h1, h2, h3⟩

/-- An element of an owned slice of flat elements. -/
theorem el_own {α : Type} {E : Enc α} {S : Nat → Prop} {A : Option Addr} {c : Nat} {xs : List α} {M : Nat → Prop} {w0 w : World} {rs : List Res} {i : Nat} (h : Held M w0 rs w) (hi : rs[i]? = some (rSo E S A c xs)) {k : Nat} (hk : k < xs.length) : ∃ b off, A = some ⟨b, off, none⟩ := by
  obtain ⟨b, off, es, h1, _⟩ := (h.sl hi).at hk
  exact ⟨b, off, h1⟩

theorem run_alloc {P : Program} {n : Nat} {a : Act} {L : List (Nat × Value)} {w : World} {t : TypeId} {agg : Bool} {zs : List Value} {d : Option Tmp} {ty : TypeId} {pos : String} {af : Array Edge} {g : Option (Nat × Bool)} (hE : Env n L a) (ht : TV P t agg zs) : (execOp a.eval ⟨d, .alloc t, ty, pos, af, g⟩).run P w = .ok (.value (.pointer (some ⟨w.heap.size, 0, none⟩))) (w.alloc (.cells zs.toArray t)) := by
  obtain ⟨i, z, h1, h2, h3, h4⟩ := ht.info
  simp [execOp, Instr.alloc, zeroValue, typeInfo, h1, h2, newVar, newRow, h4]

theorem run_box {P : Program} {n : Nat} {a : Act} {L : List (Nat × Value)} {w : World} {t : TypeId} {x : Operand} {v : Value} {cs : List Value} {d : Option Tmp} {ty : TypeId} {pos : String} {af : Array Edge} {g : Option (Nat × Bool)} (hE : Env n L a) (hx : ev L x = some v) (hv : v.cells = cs.toArray) : (execOp a.eval ⟨d, .box t x, ty, pos, af, g⟩).run P w = .ok (.value (.pointer (some ⟨w.heap.size, 0, none⟩))) (w.alloc (.cells cs.toArray t)) := by
  simp [execOp, Instr.box, hE.ev hx, newVar, newRow, hv]

theorem st_alloc {P : Program} {ops : Array Oper} {Q : Exit → Act → World → Prop} {a : Act} {w : World} {K : Act → World → Prop} {n d : Nat} {L : List (Nat × Value)} {M : Nat → Prop} {w0 : World} {rs : List Res} {t : TypeId} {agg : Bool} {zs : List Value} {ty : TypeId} {pos : String} {af : Array Edge} {g : Option (Nat × Bool)} (hE : Env n L a) (hH : Held M w0 rs w) (ht : TV P t agg zs) (hw : Region.wanted ⟨some d, .alloc t, ty, pos, af, g⟩ (yielded ops a.tmps) = true) (hn : Nat.blt d n = true)
    (k : ∀ q a' w', Env n ((d, .pointer (some ⟨q, 0, none⟩)) :: L) a' → Held M w0 (rBlk q t zs :: rs) w' → K a' w') : Stp P ops Q ⟨some d, .alloc t, ty, pos, af, g⟩ a w K :=
  st_val hE hw (run_alloc hE ht) rfl hn fun a' hE' => k _ a' _ hE' (hH.alloc t zs)

theorem st_box {P : Program} {ops : Array Oper} {Q : Exit → Act → World → Prop} {a : Act} {w : World} {K : Act → World → Prop} {n d : Nat} {L : List (Nat × Value)} {M : Nat → Prop} {w0 : World} {rs : List Res} {t : TypeId} {x : Operand} {v : Value} {cs : List Value} {ty : TypeId} {pos : String} {af : Array Edge} {g : Option (Nat × Bool)} (hE : Env n L a) (hH : Held M w0 rs w) (hx : ev L x = some v) (hv : v.cells = cs.toArray) (hw : Region.wanted ⟨some d, .box t x, ty, pos, af, g⟩ (yielded ops a.tmps) = true) (hn : Nat.blt d n = true)
    (k : ∀ q a' w', Env n ((d, .pointer (some ⟨q, 0, none⟩)) :: L) a' → Held M w0 (rBlk q t cs :: rs) w' → K a' w') : Stp P ops Q ⟨some d, .box t x, ty, pos, af, g⟩ a w K :=
  st_val hE hw (run_box hE hx hv) rfl hn fun a' hE' => k _ a' _ hE' (hH.alloc t cs)

/-- A slice literal. -/
theorem st_lit {P : Program} {ops : Array Oper} {Q : Exit → Act → World → Prop} {o : Oper} {a : Act} {w : World} {K : Act → World → Prop} {n d m : Nat} {L : List (Nat × Value)} {M : Nat → Prop} {w0 : World} {rs : List Res} {e : TypeId} {cs : List Value} (hE : Env n L a) (hH : Held M w0 rs w)
    (hr : (execOp a.eval o).run P w = .ok (.value (.slice (some ⟨w.heap.size, 0, none⟩) m m)) (w.alloc (.cells cs.toArray e))) (hw : Region.wanted o (yielded ops a.tmps) = true) (hd : o.dst = some d) (hn : Nat.blt d n = true)
    (k : ∀ q a' w', Env n ((d, .slice (some ⟨q, 0, none⟩) m m) :: L) a' → Held M w0 (rBlk q e cs :: rs) w' → K a' w') : Stp P ops Q o a w K :=
  st_val hE hw hr hd hn fun a' hE' => k _ a' _ hE' (hH.alloc e cs)

def setL (cs : List Value) (o : Nat) : List Value → List Value
  | [] => cs
  | v :: vs => setL (cs.set o v) (o + 1) vs

theorem run_storeCells {P : Program} {M : Nat → Prop} {w0 : World} {g : Nat} {t : TypeId} {i : Nat} {o : Nat} : ∀ (vs : List Value) (rs : List Res) (cs : List Value) (w : World) (j : Nat), Held M w0 rs w → rs[i]? = some (rBlk g t cs) → o + j + vs.length ≤ cs.length → (∀ v ∈ vs, v.oneCell' = true) →
    ∃ w', (storeCells ⟨g, o, none⟩ vs j).run P w = .ok () w' ∧ Held M w0 (rs.set i (rBlk g t (setL cs (o + j) vs))) w'
  | [], rs, cs, w, j, h, hi, _, _ => ⟨w, by simp [storeCells], by
      have : rs.set i (rBlk g t (setL cs (o + j) [])) = rs := by
        apply List.ext_getElem?
        intro m
        by_cases e : i = m
        · subst e; rw [List.getElem?_set_self (List.getElem?_eq_some_iff.1 hi).1, hi]; rfl
        · rw [List.getElem?_set_ne e]
      rw [this]; exact h⟩
  | v :: vs, rs, cs, w, j, h, hi, hl, h1 => by
    rw [List.length_cons] at hl
    have hlt : o + j < cs.length := by omega
    have hB : Blk w g t cs.toArray := h.get hi
    have hc : w.cell? ⟨g, o + j, none⟩ = some cs[o + j] := by rw [hB.cell]; simp [hlt]
    have hf : w.frozen? ⟨g, o + j, none⟩ = false := hB.frozen _
    have h2 := h.set hi (o + j) v
    have hi' : (rs.set i (rBlk g t (cs.set (o + j) v)))[i]? = some (rBlk g t (cs.set (o + j) v)) := List.getElem?_set_self (List.getElem?_eq_some_iff.1 hi).1
    obtain ⟨w', e1, e2⟩ := run_storeCells (P := P) (o := o) vs _ (cs.set (o + j) v) _ (j + 1) h2 hi' (by rw [List.length_set]; omega) (fun u hu => h1 u (by simp [hu]))
    refine ⟨w', ?_, ?_⟩
    · have hv := h1 v (by simp)
      have hs : (Go.store ⟨g, o + j, none⟩ v).run P w = .ok () (w.setCell ⟨g, o + j, none⟩ v) := by
        cases v <;> first | (simp [Value.oneCell'] at hv; done) | simp [Go.store, Sem.run, hc, hf]
      simp only [storeCells, add_none, Sem.run_bind, hs, Result.andThen_ok, e1]
    · rw [List.set_set] at e2
      exact e2

theorem run_storeAt {P : Program} {M : Nat → Prop} {w0 : World} {g : Nat} {t tb : TypeId} {i o : Nat} {vs : List Value} {rs : List Res} {cs : List Value} {w : World} {v : Value} {agg : Bool} {zs : List Value} (ht : TV P t agg zs) (hv : v.cells = vs.toArray) (hz : vs.length = zs.length) (h : Held M w0 rs w) (hi : rs[i]? = some (rBlk g tb cs)) (hl : o + vs.length ≤ cs.length) (h1 : ∀ v ∈ vs, v.oneCell' = true) :
    ∃ w', (Instr.storeAt t (.pointer (some ⟨g, o, none⟩)) v).run P w = .ok () w' ∧ Held M w0 (rs.set i (rBlk g tb (setL cs o vs))) w' := by
  obtain ⟨ii, z, e1, _, e3, _⟩ := ht.info
  obtain ⟨w', h2, h3⟩ := run_storeCells (P := P) (o := o) vs rs cs w 0 h hi (by omega) h1
  refine ⟨w', ?_, h3⟩
  simp only [Instr.storeAt, Instr.sureAddr, storeVar, sizeOf, typeInfo, Sem.run_bind, Sem.run_pure, Result.andThen_ok, run_program, e1]
  simp [hv, h2, e3, hz]

/-- A store into a held block. -/
theorem st_store {P : Program} {ops : Array Oper} {Q : Exit → Act → World → Prop} {a : Act} {w : World} {K : Act → World → Prop} {n : Nat} {L : List (Nat × Value)} {M : Nat → Prop} {w0 : World} {rs : List Res} {t tb : TypeId} {agg : Bool} {zs : List Value} {x y : Operand} {g o : Nat} {v : Value} {vs cs : List Value} {ty : TypeId} {pos : String} {af : Array Edge} {gd : Option (Nat × Bool)} (i : Nat) (hE : Env n L a) (hH : Held M w0 rs w) (ht : TV P t agg zs) (hx : ev L x = some (.pointer (some ⟨g, o, none⟩))) (hy : ev L y = some v) (hv : v.cells = vs.toArray) (hz : vs.length = zs.length) (hi : rs[i]? = some (rBlk g tb cs)) (hl : Nat.ble (o + vs.length) cs.length = true) (h1 : ∀ v ∈ vs, v.oneCell' = true) (hw : Region.wanted ⟨none, .store t x y, ty, pos, af, gd⟩ (yielded ops a.tmps) = true)
    (k : ∀ w', Held M w0 (rs.set i (rBlk g tb (setL cs o vs))) w' → K a w') : Stp P ops Q ⟨none, .store t x y, ty, pos, af, gd⟩ a w K := by
  obtain ⟨w', h2, h3⟩ := run_storeAt (P := P) ht hv hz hH hi (Nat.le_of_ble_eq_true hl) h1
  refine st_skip hw ?_ rfl (k w' h3)
  simp only [execOp, hE.ev hx, hE.ev hy, Sem.run_bind, h2, Result.andThen_ok, Sem.run_pure]

/-- A row of elements: the cells of each, and the blocks that each owns. -/
def Vec {α : Type} (E : Enc α) (t : TypeId) (w : World) (S : Nat → Prop) (v : Value) (xs : List α) : Prop :=
  ∃ (css : List (List Value)) (T : Nat → Nat → Prop), css.length = xs.length ∧ w.ownsRow 0 t E.size v xs.length css.flatten ∧ (∀ b, v.ownBlock = some b → S b) ∧ (∀ i b, T i b → S b ∧ v.ownBlock ≠ some b) ∧ (∀ i j b, T i b → T j b → i = j) ∧
    ∀ (i : Nat) (x : α), xs[i]? = some x → ∃ es, css[i]? = some es ∧ E.O w (T i) es x

theorem ownsRow_keep {w w' : World} {base : Nat} {t : TypeId} {size : Nat} {v : Value} {n : Nat} {xs : List Value} (h : w.ownsRow base t size v n xs) (hk : ∀ b, v.ownBlock = some b → w'.heap[b]? = w.heap[b]?) : w'.ownsRow base t size v n xs := by
  refine ⟨h.1, ?_⟩
  rcases h.2 with h2 | ⟨g, cap, cur, rfl, hg, hh, r⟩
  · exact .inl h2
  · exact .inr ⟨g, cap, cur, rfl, hg, (hk g rfl).trans hh, r⟩

theorem Vec.keep {α : Type} {E : Enc α} {t : TypeId} {w w' : World} {S : Nat → Prop} {v : Value} {xs : List α} (h : Vec E t w S v xs) (hk : ∀ b, S b → w'.heap[b]? = w.heap[b]?) : Vec E t w' S v xs := by
  obtain ⟨css, T, h1, h2, h3, h4, h5, h6⟩ := h
  refine ⟨css, T, h1, ownsRow_keep h2 fun b hb => hk b (h3 b hb), h3, h4, h5, fun i x hx => ?_⟩
  obtain ⟨es, h7, h8⟩ := h6 i x hx
  exact ⟨es, h7, E.okeep h8 fun b hb => hk b (h4 i b hb).1⟩

def rVec {α : Type} (E : Enc α) (t : TypeId) (S : Nat → Prop) (A : Option Addr) (c : Nat) (xs : List α) : Res :=
  ⟨S, fun w => Vec E t w S (.slice A xs.length c) xs, fun _ _ h hv => hv.keep h⟩

theorem Held.vecNil {M : Nat → Prop} {w0 : World} {rs : List Res} {w : World} (h : Held M w0 rs w) {α : Type} (E : Enc α) (t : TypeId) : Held M w0 (rVec E t Nob none 0 [] :: rs) w :=
  h.new (Below.refl _ _) (rVec E t Nob none 0 []) ⟨[], fun _ _ => False, rfl, World.ownsRow_nil _ _ _ _, (fun b hb => by cases hb), fun _ _ h => h.elim, fun _ _ _ h => h.elim, fun i x hx => by simp at hx⟩ fun _ h => h.elim

/-- A block with the cells of flat elements is a row of them. -/
theorem Held.vecFlat {M : Nat → Prop} {w0 : World} {g : Nat} {t : TypeId} {rs : List Res} {w : World} {α : Type} {E : Enc α} {xs : List α} {css : List (List Value)} (h : Held M w0 (rBlk g t css.flatten :: rs) w) (hl : css.length = xs.length) (hm : xs.length ≤ maxLen) (hO : ∀ (i : Nat) (x : α), xs[i]? = some x → ∃ es, css[i]? = some es ∧ ∀ W, E.O W Nob es x) : Held M w0 (rVec E t (fun b => b = g) (some ⟨g, 0, none⟩) xs.length xs :: rs) w := by
  have hfl : css.flatten.length = xs.length * E.size := by
    have key : ∀ (css : List (List Value)) (xs : List α), css.length = xs.length → (∀ (i : Nat) (x : α), xs[i]? = some x → ∃ es, css[i]? = some es ∧ ∀ W, E.O W Nob es x) → css.flatten.length = xs.length * E.size := by
      intro css
      induction css with
      | nil => intro xs hl _; simp at hl; simp [hl.symm]
      | cons e css ih =>
        intro xs hl hO
        rcases xs with _ | ⟨x, xs⟩
        · simp at hl
        · obtain ⟨es, h1, h2⟩ := hO 0 x rfl
          simp at h1; subst h1
          rw [List.flatten_cons, List.length_append, ih xs (by simpa using hl) (fun i y hy => by simpa using hO (i + 1) y (by simpa using hy)), E.len (E.read (h2 default)), List.length_cons, Nat.succ_mul]; omega
    exact key css xs hl hO
  refine h.turn _ (fun hB => ⟨css, fun _ _ => False, hl, ⟨hfl, .inr ⟨g, xs.length, css.flatten.toArray, rfl, Nat.zero_le _, hB, Nat.le_refl _, hm, by simpa using hfl, ?_⟩⟩, (fun b hb => by simpa [Value.ownBlock] using hb.symm), fun _ _ h => h.elim, fun _ _ _ h => h.elim, fun i x hx => ?_⟩) fun _ hb => hb
  · rw [← hfl]; exact List.take_length
  · obtain ⟨es, h1, h2⟩ := hO i x hx
    exact ⟨es, h1, E.omore (h2 w) fun _ h => h.elim⟩

/-- A block with the cells of elements that own memory is a row of them. -/
theorem Held.vecLit {M : Nat → Prop} {w0 : World} {g : Nat} {t : TypeId} {rs : List Res} {w : World} {α : Type} {E : Enc α} {ps : List ((Nat → Prop) × List Value × α)} (h : Held M w0 (ps.map (fun p => rO E p.1 p.2.1 p.2.2) ++ rBlk g t (ps.map (fun p => p.2.1)).flatten :: rs) w) (hm : ps.length ≤ maxLen) :
    ∃ S, Held M w0 (rVec E t S (some ⟨g, 0, none⟩) ps.length (ps.map (fun p => p.2.2)) :: rs) w := by
  have hin : ∀ p ∈ ps, rO E p.1 p.2.1 p.2.2 ∈ ps.map (fun p => rO E p.1 p.2.1 p.2.2) ++ rBlk g t (ps.map (fun p => p.2.1)).flatten :: rs := fun p hp => List.mem_append_left _ (List.mem_map.2 ⟨p, hp, rfl⟩)
  have hO : ∀ p ∈ ps, E.O w p.1 p.2.1 p.2.2 := fun p hp => h.ok _ (hin p hp)
  have hB : Blk w g t (ps.map (fun p => p.2.1)).flatten.toArray := h.ok (rBlk g t (ps.map (fun (p : (Nat → Prop) × List Value × α) => p.2.1)).flatten) (by simp)
  have hfl : (ps.map (fun p => p.2.1)).flatten.length = ps.length * E.size := by
    have key : ∀ (qs : List ((Nat → Prop) × List Value × α)), (∀ p ∈ qs, p.2.1.length = E.size) → (qs.map (fun p => p.2.1)).flatten.length = qs.length * E.size := by
      intro qs
      induction qs with
      | nil => intro _; simp
      | cons q qs ih => intro hq; rw [List.map_cons, List.flatten_cons, List.length_append, ih fun p hp => hq p (by simp [hp]), hq q (by simp), List.length_cons, Nat.succ_mul]; omega
    exact key ps fun p hp => E.len (E.read (hO p hp))
  obtain ⟨sep1, sep2, sep3⟩ := List.pairwise_append.1 h.sep
  have sep4 := List.pairwise_cons.1 sep2
  refine ⟨fun b => b = g ∨ ∃ p ∈ ps, p.1 b, h.chg, ?_, ?_, ?_⟩
  · intro r hr
    rcases List.mem_cons.1 hr with rfl | hr
    · refine ⟨ps.map (fun p => p.2.1), fun i b => ∃ p, ps[i]? = some p ∧ p.1 b, by simp, ⟨by simpa using hfl, .inr ⟨g, ps.length, _, by simp, Nat.zero_le _, hB, by simp, hm, by simpa using hfl, by rw [List.length_map, ← hfl]; exact List.take_length⟩⟩, fun b hb => .inl (by simpa [Value.ownBlock] using hb.symm), ?_, ?_, ?_⟩
      · rintro i b ⟨p, hp, hb⟩
        refine ⟨.inr ⟨p, List.mem_of_getElem? hp, hb⟩, fun e => ?_⟩
        have e' : b = g := by simpa [Value.ownBlock] using e.symm
        exact sep3 _ (List.mem_map.2 ⟨p, List.mem_of_getElem? hp, rfl⟩) (rBlk g t (ps.map (fun p => p.2.1)).flatten) (by simp) b hb e'
      · rintro i j b ⟨p, hp, hb⟩ ⟨q, hq, hb'⟩
        rcases Nat.lt_trichotomy i j with hlt | rfl | hlt
        · exact absurd hb' (sep_at sep1 (i := i) (j := j) (by rw [List.getElem?_map, hp]; rfl) (by rw [List.getElem?_map, hq]; rfl) (by omega) b hb)
        · rfl
        · exact absurd hb' (sep_at sep1 (i := i) (j := j) (by rw [List.getElem?_map, hp]; rfl) (by rw [List.getElem?_map, hq]; rfl) (by omega) b hb)
      · intro i x hx
        rw [List.getElem?_map] at hx
        obtain ⟨p, hp, rfl⟩ := Option.map_eq_some_iff.1 hx
        exact ⟨p.2.1, by simp [hp], E.omore (hO p (List.mem_of_getElem? hp)) fun b hb => ⟨p, hp, hb⟩⟩
    · exact h.ok r (by simp [hr])
  · intro r hr b hb
    rcases List.mem_cons.1 hr with rfl | hr
    · rcases hb with rfl | ⟨p, hp, hb⟩
      · exact h.rng (rBlk b t (ps.map (fun p => p.2.1)).flatten) (by simp) b rfl
      · exact h.rng _ (hin p hp) b hb
    · exact h.rng r (by simp [hr]) b hb
  · refine List.pairwise_cons.2 ⟨fun r hr b hb hb' => ?_, sep4.2⟩
    rcases hb with rfl | ⟨p, hp, hb⟩
    · exact sep4.1 r hr b rfl hb'
    · exact sep3 _ (List.mem_map.2 ⟨p, hp, rfl⟩) r (by simp [hr]) b hb hb'

theorem flatten_at (s : Nat) : ∀ (css : List (List Value)), (∀ es ∈ css, es.length = s) → ∀ (i : Nat) (es : List Value), css[i]? = some es → ∀ j, j < s → css.flatten[i * s + j]? = es[j]?
  | [], _, i, es, hx, _, _ => by simp at hx
  | e :: css, h, 0, es, hx, j, hj => by
    simp at hx; subst hx
    rw [List.flatten_cons, Nat.zero_mul, Nat.zero_add, List.getElem?_append_left (by rw [h e (by simp)]; exact hj)]
  | e :: css, h, i + 1, es, hx, j, hj => by
    have hy := h e (by simp)
    rw [List.flatten_cons, Nat.succ_mul, List.getElem?_append_right (by rw [hy]; omega), hy, show i * s + s + j - s = i * s + j from by omega]
    exact flatten_at s css (fun z hz => h z (by simp [hz])) i es (by simpa using hx) j hj

theorem Vec.so {α : Type} {E : Enc α} {t : TypeId} {w : World} {S : Nat → Prop} {A : Option Addr} {c : Nat} {xs : List α} (h : Vec E t w S (.slice A xs.length c) xs) : So E w S A c xs := by
  obtain ⟨css, T, h1, h2, h3, h4, h5, h6⟩ := h
  rcases h2.2 with ⟨he, hn⟩ | ⟨g, cap, cur, he, hg, hh, hnc, hcm, hcs, htk⟩
  · have hx : xs = [] := List.eq_nil_of_length_eq_zero hn
    subst hx
    simp only [Value.slice.injEq] at he
    obtain ⟨rfl, _, rfl⟩ := he
    exact So.nil (Nat.zero_le _)
  · simp only [Value.slice.injEq, true_and] at he
    obtain ⟨rfl, rfl⟩ := he
    refine ⟨hnc, hcm, fun _ => ⟨g, 0, t, cur, T, rfl, h3 g rfl, hh, fun i k hk => ⟨(h4 i k hk).1, fun e => (h4 i k hk).2 (by rw [e]; rfl)⟩, h5, fun i x hx => ?_⟩⟩
    obtain ⟨es, h7, h8⟩ := h6 i x hx
    refine ⟨es, h8, fun j u hu => ?_⟩
    have hi := (List.getElem?_eq_some_iff.1 hx).1
    have hj := (List.getElem?_eq_some_iff.1 hu).1
    have hl : ∀ es ∈ css, es.length = E.size := fun es hes => by
      obtain ⟨m, hm, rfl⟩ := List.getElem_of_mem hes
      obtain ⟨es', h9, h10⟩ := h6 m xs[m] (List.getElem?_eq_getElem (by omega))
      rw [List.getElem?_eq_getElem hm] at h9
      simp at h9; rw [h9]; exact E.len (E.read h10)
    rw [hl es (List.mem_of_getElem? h7)] at hj
    have h9 := flatten_at E.size css hl i es h7 j hj
    rw [← htk] at h9
    have hlt : i * E.size + j < xs.length * E.size := by
      have : (i + 1) * E.size ≤ xs.length * E.size := Nat.mul_le_mul_right _ (by omega)
      rw [Nat.succ_mul] at this; omega
    rw [List.getElem?_take_of_lt hlt, Array.getElem?_toList] at h9
    rw [Nat.zero_add, h9]; exact hu

theorem Held.vecSo {M : Nat → Prop} {w0 : World} {rs : List Res} {w : World} {α : Type} {E : Enc α} {t : TypeId} {S : Nat → Prop} {A : Option Addr} {c : Nat} {xs : List α} (h : Held M w0 (rVec E t S A c xs :: rs) w) : Held M w0 (rSo E S A c xs :: rs) w :=
  h.turn _ (fun hv => oSl (Vec.so hv)) fun _ hb => hb

theorem Held.vecSl {M : Nat → Prop} {w0 : World} {rs : List Res} {w : World} {α : Type} {E : Enc α} {t : TypeId} {S : Nat → Prop} {A : Option Addr} {c : Nat} {xs : List α} (h : Held M w0 rs w) {i : Nat} (hi : rs[i]? = some (rVec E t S A c xs)) : Sl E w (Old w) A c xs :=
  (Vec.so (h.get hi)).sl.more fun b hb => (h.rng _ (List.mem_of_getElem? hi) b hb).2

theorem vec_shape {w : World} {base : Nat} {t : TypeId} {size : Nat} {v : Value} {n : Nat} {xs : List Value} (h : w.ownsRow base t size v n xs) : ∃ A c, v = .slice A n c := by
  rcases h.2 with ⟨rfl, rfl⟩ | ⟨g, cap, cur, rfl, _⟩
  · exact ⟨none, 0, rfl⟩
  · exact ⟨_, cap, rfl⟩

theorem grown_chg {w w' : World} {row : Option Nat} (h : w.grownBy w' row) : Chg (fun b => row = some b) w w' := ⟨h.os, h.tape, h.output, h.size, fun k hk hS => h.block k hk fun e => hS e.symm⟩

/-- Elements laid at ad, one after another, are appended; each with the blocks U that it owns. -/
theorem run_append_vec {P : Program} {M : Nat → Prop} {w0 : World} {rs : List Res} {w : World} {α : Type} {E : Enc α} {t e : TypeId} {bytes : Nat} {S U : Nat → Prop} {A : Option Addr} {c : Nat} {xs : List α} (he : TSl P t e E.size bytes) (ty : TypeId)
    (h : Held M w0 (rVec E e S A c xs :: rs) w) (ad : Addr) (ys : List α) (c2 : Nat) (dss : List (List Value)) (hl : dss.length = ys.length) (hcell : ∀ j u, dss.flatten[j]? = some u → w.cell? (ad.add j) = some u) (h1 : ∀ es ∈ dss, ∀ u ∈ es, u.oneCell' = true)
    (V : Nat → Nat → Prop) (hV : ∀ i b, V i b → U b) (hVd : ∀ i j b, V i b → V j b → i = j) (hO : ∀ (i : Nat) (y : α), ys[i]? = some y → ∃ es, dss[i]? = some es ∧ E.O w (V i) es y) (hU : ∀ b, U b → ¬ S b ∧ b < w.heap.size)
    (h63 : xs.length + ys.length ≤ maxLen) (hbytes : (xs.length + ys.length) * bytes ≤ 140737488355328) :
    ∃ A' c' S' w', (Builtin.append_ #[t, t] ty #[.slice A xs.length c, .slice (some ad) ys.length c2]).run P w = .ok (.slice A' (xs ++ ys).length c') w' ∧ Vec E e w' S' (.slice A' (xs ++ ys).length c') (xs ++ ys) ∧ Chg S w w' ∧ (∀ b, S' b → S b ∨ U b ∨ (w.heap.size ≤ b ∧ b < w'.heap.size)) := by
  obtain ⟨i, z, hi, hz0, hz1, hz2, hz3⟩ := he.info
  obtain ⟨css, T, k1, k2, k3, k4, k5, k6⟩ := h.ok _ (List.mem_cons_self)
  have hrng := h.rng _ (List.mem_cons_self)
  have hfl : dss.flatten.length = ys.length * E.size := by
    have key : ∀ (dss : List (List Value)) (ys : List α), dss.length = ys.length → (∀ (i : Nat) (y : α), ys[i]? = some y → ∃ es : List Value, dss[i]? = some es ∧ es.length = E.size) → dss.flatten.length = ys.length * E.size := by
      intro dss
      induction dss with
      | nil => intro ys hl _; simp at hl; simp [hl.symm]
      | cons e dss ih =>
        intro ys hl hO
        rcases ys with _ | ⟨y, ys⟩
        · simp at hl
        · obtain ⟨es, h1, h2⟩ := hO 0 y rfl
          simp at h1; subst h1
          rw [List.flatten_cons, List.length_append, ih ys (by simpa using hl) (fun i y hy => by simpa using hO (i + 1) y (by simpa using hy)), h2, List.length_cons, Nat.succ_mul]; omega
    exact key dss ys hl fun i y hy => by obtain ⟨es, h1, h2⟩ := hO i y hy; exact ⟨es, h1, E.len (E.read h2)⟩
  obtain ⟨v', w', e1, e2, e3, e4, e5⟩ := run_append_own_at (P := P) w 0 t ty e i z E.size bytes he.under hi hz0 hz1 hz2 hz3 E.pos _ xs.length css.flatten k2 ad ys.length c2 dss.flatten hfl hcell (fun u hu => by obtain ⟨es, h2, h3⟩ := List.mem_flatten.1 hu; exact h1 es h2 u h3) h63 hbytes (Nat.zero_le _)
  obtain ⟨A', c', rfl⟩ := vec_shape e2
  have hch := grown_chg e3
  refine ⟨A', c', fun b => S b ∨ U b ∨ (w.heap.size ≤ b ∧ b < w'.heap.size), w', by rw [List.length_append]; exact e1, ?_, hch.mono (fun b hb => k3 b hb), fun b hb => hb⟩
  have hnew : ∀ b, (Value.slice A' (xs.length + ys.length) c').ownBlock = some b → (Value.slice A xs.length c).ownBlock = some b ∨ (w.heap.size ≤ b ∧ b < w'.heap.size) := by
    intro b hb
    rcases e5 with e5 | e5
    · left; rw [← e5]; exact hb
    · right
      have hb2 : b = w.heap.size := by rw [e5] at hb; exact (Option.some.inj hb).symm
      rcases e2.2 with ⟨q, _⟩ | ⟨g, cap, cur, q, _, hh, _⟩
      · rw [q] at hb; cases hb
      · rw [q] at hb
        have : g = b := by simpa [Value.ownBlock] using hb
        subst this
        exact ⟨by omega, Blk.lt (t := e) (cur := cur) hh⟩
  rw [List.length_append]
  refine ⟨css ++ dss, fun i b => (i < xs.length ∧ T i b) ∨ (xs.length ≤ i ∧ V (i - xs.length) b), by simp [k1, hl], by rw [List.flatten_append, List.length_append]; exact e2, fun b hb => ?_, fun i b hb => ?_, fun i j b hi hj => ?_, fun m x hx => ?_⟩
  · rcases hnew b hb with hb | hb
    · exact .inl (k3 b hb)
    · exact .inr (.inr hb)
  · rcases hb with ⟨_, hb⟩ | ⟨_, hb⟩
    · refine ⟨.inl (k4 i b hb).1, fun hb' => ?_⟩
      rcases hnew b hb' with q | q
      · exact (k4 i b hb).2 q
      · have := (hrng b (k4 i b hb).1).2; omega
    · refine ⟨.inr (.inl (hV _ b hb)), fun hb' => ?_⟩
      rcases hnew b hb' with q | q
      · exact (hU b (hV _ b hb)).1 (k3 b q)
      · have := (hU b (hV _ b hb)).2; omega
  · rcases hi with ⟨hi1, hi⟩ | ⟨hi1, hi⟩ <;> rcases hj with ⟨hj1, hj⟩ | ⟨hj1, hj⟩
    · exact k5 i j b hi hj
    · exact absurd (k4 i b hi).1 (hU b (hV _ b hj)).1
    · exact absurd (k4 j b hj).1 (hU b (hV _ b hi)).1
    · have := hVd _ _ b hi hj; omega
  · by_cases hm : m < xs.length
    · rw [List.getElem?_append_left hm] at hx
      obtain ⟨es, h2, h3⟩ := k6 m x hx
      refine ⟨es, by rw [List.getElem?_append_left (by omega)]; exact h2, E.omore (E.okeep h3 fun b hb => ?_) fun b hb => .inl ⟨hm, hb⟩⟩
      exact hch.block b (hrng b (k4 m b hb).1).2 fun q => (k4 m b hb).2 q
    · rw [List.getElem?_append_right (by omega)] at hx
      obtain ⟨es, h2, h3⟩ := hO _ x hx
      refine ⟨es, by rw [List.getElem?_append_right (by omega), k1]; exact h2, E.omore (E.okeep h3 fun b hb => ?_) fun b hb => .inr ⟨by omega, hb⟩⟩
      exact hch.block b (hU b (hV _ b hb)).2 fun q => (hU b (hV _ b hb)).1 (k3 b q)

theorem Held.mut2 {M : Nat → Prop} {w0 : World} {r s : Res} {rs : List Res} {w w' : World} (h : Held M w0 (r :: s :: rs) w) (hc : Chg r.S w w') (r' : Res) (hr : r'.φ w') (hS : ∀ b, r'.S b → r.S b ∨ s.S b ∨ (w.heap.size ≤ b ∧ b < w'.heap.size)) : Held M w0 (r' :: rs) w' := by
  have h1 : Held M w0 (⟨fun b => r.S b ∨ s.S b, fun _ => True, fun _ _ _ _ => trivial⟩ :: rs) w := h.join ⟨fun b => r.S b ∨ s.S b, fun _ => True, fun _ _ _ _ => trivial⟩ (fun _ _ _ => trivial) fun _ hb => hb
  have h2 := h1.mut (i := 0) rfl (hc.mono fun b hb => .inl hb) r' hr fun b hb => by
    rcases hS b hb with q | q | q
    · exact .inl (.inl q)
    · exact .inl (.inr q)
    · exact .inr q
  exact h2

/-- One element that owns memory is appended: the row, the element's block, the element. -/
theorem st_app1 {P : Program} {ops : Array Oper} {Q : Exit → Act → World → Prop} {a : Act} {w : World} {K : Act → World → Prop} {n d : Nat} {L : List (Nat × Value)} {M : Nat → Prop} {w0 : World} {rs rs' : List Res} {α : Type} {E : Enc α} {t e : TypeId} {bytes : Nat} {S U : Nat → Prop} {A : Option Addr} {c g : Nat} {xs : List α} {es : List Value} {y : α} {x1 x2 : Operand} {ty : TypeId} {pos : String} {af : Array Edge} {gd : Option (Nat × Bool)} (hE : Env n L a) (hH : Held M w0 rs w) (he : TSl P t e E.size bytes) (is : List Nat) (hn1 : is.Nodup) (his : pick rs is = some (rVec E e S A c xs :: rO E U es y :: rBlk g e es :: rs'))
    (hx1 : ev L x1 = some (.slice A xs.length c)) (hx2 : ev L x2 = some (.slice (some ⟨g, 0, none⟩) 1 1)) (h1 : ∀ u ∈ es, u.oneCell' = true) (h63 : xs.length + 1 ≤ maxLen) (hbytes : (xs.length + 1) * bytes ≤ 140737488355328) (hw : Region.wanted ⟨some d, .call { callee := .builtin .append, args := #[x1, x2], argTypes := #[t, t] }, ty, pos, af, gd⟩ (yielded ops a.tmps) = true) (hn : Nat.blt d n = true)
    (k : ∀ A' c' S' a' w', Env n ((d, .slice A' (xs ++ [y]).length c') :: L) a' → Held M w0 (rVec E e S' A' c' (xs ++ [y]) :: rBlk g e es :: rs') w' → K a' w') : Stp P ops Q ⟨some d, .call { callee := .builtin .append, args := #[x1, x2], argTypes := #[t, t] }, ty, pos, af, gd⟩ a w K := by
  have h := hH.sel is hn1 his
  have hB : Blk w g e es.toArray := h.ok (rBlk g e es) (by simp)
  have hO : E.O w U es y := h.ok (rO E U es y) (by simp)
  have hsep := List.pairwise_cons.1 h.sep
  obtain ⟨A', c', S', w', e1, e2, e3, e4⟩ := run_append_vec (U := U) he ty h ⟨g, 0, none⟩ [y] 1 [es] rfl (fun j u hu => by rw [add_none, Nat.zero_add, hB.cell]; simpa using hu) (by simpa using h1)
    (fun i b => i = 0 ∧ U b) (fun i b hb => hb.2) (fun i j b hi hj => by rw [hi.1, hj.1]) (fun i z hz => by
      rcases i with _ | i
      · simp at hz; subst hz; exact ⟨es, rfl, E.omore hO fun b hb => ⟨rfl, hb⟩⟩
      · simp at hz) (fun b hb => ⟨fun hb' => hsep.1 (rO E U es y) (by simp) b hb' hb, (h.rng (rO E U es y) (by simp) b hb).2⟩) h63 hbytes
  have h2 : Held M w0 (rVec E e S' A' c' (xs ++ [y]) :: rBlk g e es :: rs') w' := h.mut2 e3 (rVec E e S' A' c' (xs ++ [y])) e2 e4
  refine st_val hE hw ?_ rfl hn fun a' hE' => k A' c' S' a' w' hE' h2
  simp only [List.length_singleton] at e1
  simp only [execOp, resolve, invoke, builtin, Sem.run_bind, Sem.run_pure, Result.andThen_ok, List.map_toArray, List.map_cons, List.map_nil, hE.ev hx1, hE.ev hx2, e1]

/-- One flat element is appended. -/
theorem st_app1F {P : Program} {ops : Array Oper} {Q : Exit → Act → World → Prop} {a : Act} {w : World} {K : Act → World → Prop} {n d : Nat} {L : List (Nat × Value)} {M : Nat → Prop} {w0 : World} {rs rs' : List Res} {α : Type} {E : Enc α} {t e : TypeId} {bytes : Nat} {S : Nat → Prop} {A : Option Addr} {c g : Nat} {xs : List α} {es : List Value} {x1 x2 : Operand} {ty : TypeId} {pos : String} {af : Array Edge} {gd : Option (Nat × Bool)} (y : α) (hE : Env n L a) (hH : Held M w0 rs w) (he : TSl P t e E.size bytes) (is : List Nat) (hn1 : is.Nodup) (his : pick rs is = some (rVec E e S A c xs :: rBlk g e es :: rs')) (hO : ∀ W, E.O W Nob es y)
    (hx1 : ev L x1 = some (.slice A xs.length c)) (hx2 : ev L x2 = some (.slice (some ⟨g, 0, none⟩) 1 1)) (h1 : ∀ u ∈ es, u.oneCell' = true) (h63 : xs.length + 1 ≤ maxLen) (hbytes : (xs.length + 1) * bytes ≤ 140737488355328) (hw : Region.wanted ⟨some d, .call { callee := .builtin .append, args := #[x1, x2], argTypes := #[t, t] }, ty, pos, af, gd⟩ (yielded ops a.tmps) = true) (hn : Nat.blt d n = true)
    (k : ∀ A' c' S' a' w', Env n ((d, .slice A' (xs ++ [y]).length c') :: L) a' → Held M w0 (rVec E e S' A' c' (xs ++ [y]) :: rs') w' → K a' w') : Stp P ops Q ⟨some d, .call { callee := .builtin .append, args := #[x1, x2], argTypes := #[t, t] }, ty, pos, af, gd⟩ a w K := by
  have h := hH.sel is hn1 his
  have hB : Blk w g e es.toArray := h.ok (rBlk g e es) (by simp)
  obtain ⟨A', c', S', w', e1, e2, e3, e4⟩ := run_append_vec (U := Nob) he ty h ⟨g, 0, none⟩ [y] 1 [es] rfl (fun j u hu => by rw [add_none, Nat.zero_add, hB.cell]; simpa using hu) (by simpa using h1)
    (fun _ _ => False) (fun i b hb => hb.elim) (fun i j b hi hj => hi.elim) (fun i z hz => by
      rcases i with _ | i
      · simp at hz; subst hz; exact ⟨es, rfl, hO w⟩
      · simp at hz) (fun b hb => hb.elim) h63 hbytes
  have h2 : Held M w0 (rVec E e S' A' c' (xs ++ [y]) :: rs') w' := h.mut2 e3 (rVec E e S' A' c' (xs ++ [y])) e2 (fun b hb => by
    rcases e4 b hb with q | q | q
    · exact .inl q
    · exact q.elim
    · exact .inr (.inr q))
  refine st_val hE hw ?_ rfl hn fun a' hE' => k A' c' S' a' w' hE' h2
  simp only [List.length_singleton] at e1
  simp only [execOp, resolve, invoke, builtin, Sem.run_bind, Sem.run_pure, Result.andThen_ok, List.map_toArray, List.map_cons, List.map_nil, hE.ev hx1, hE.ev hx2, e1]

abbrev tFraction : Type := Int × Int

abbrev tTape : Type := (List Int) × (List Int)

abbrev tMultiRule : Type := Int × (List Int) × (List Int) × (List Int) × Int

abbrev eMultiRule : Enc tMultiRule := (ePr eInt (ePr (eSl eInt) (ePr (eSl eInt) (ePr (eSl eInt) eInt))))

theorem shape_MultiRule {w : World} {S : Nat → Prop} {es : List Value} {x : tMultiRule} (h : eMultiRule.R w S es x) : ∃ A1 c1 A2 c2 A3 c3, es = [.int .i64 x.1, .slice A1 x.2.1.length c1, .slice A2 x.2.2.1.length c2, .slice A3 x.2.2.2.1.length c3, .int .i64 x.2.2.2.2] ∧ I64 x.1 ∧ Sl eInt w S A1 c1 x.2.1 ∧ Sl eInt w S A2 c2 x.2.2.1 ∧ Sl eInt w S A3 c3 x.2.2.2.1 ∧ I64 x.2.2.2.2 := by
  obtain ⟨_, _, rfl, ⟨rfl, h0⟩, ⟨_, _, rfl, ⟨A1, c1, rfl, h1⟩, ⟨_, _, rfl, ⟨A2, c2, rfl, h2⟩, ⟨_, _, rfl, ⟨A3, c3, rfl, h3⟩, ⟨rfl, h4⟩⟩⟩⟩⟩ := h
  exact ⟨A1, c1, A2, c2, A3, c3, rfl, h0, h1, h2, h3, h4⟩

abbrev tMulti : Type := Int × Int × Int × (List tMultiRule)

abbrev eMulti : Enc tMulti := (ePr eInt (ePr eInt (ePr eInt (eSl eMultiRule))))

theorem shape_Multi {w : World} {S : Nat → Prop} {es : List Value} {x : tMulti} (h : eMulti.R w S es x) : ∃ A3 c3, es = [.int .i64 x.1, .int .i64 x.2.1, .int .i64 x.2.2.1, .slice A3 x.2.2.2.length c3] ∧ I64 x.1 ∧ I64 x.2.1 ∧ I64 x.2.2.1 ∧ Sl eMultiRule w S A3 c3 x.2.2.2 := by
  obtain ⟨_, _, rfl, ⟨rfl, h0⟩, ⟨_, _, rfl, ⟨rfl, h1⟩, ⟨_, _, rfl, ⟨rfl, h2⟩, ⟨A3, c3, rfl, h3⟩⟩⟩⟩ := h
  exact ⟨A3, c3, rfl, h0, h1, h2, h3⟩

theorem rep_Multi {w : World} {S : Nat → Prop} {x : tMulti} {A3 : Option Addr} {c3 : Nat} (h0 : I64 x.1) (h1 : I64 x.2.1) (h2 : I64 x.2.2.1) (h3 : Sl eMultiRule w S A3 c3 x.2.2.2) : eMulti.R w S [.int .i64 x.1, .int .i64 x.2.1, .int .i64 x.2.2.1, .slice A3 x.2.2.2.length c3] x := ⟨[_], _, rfl, ⟨rfl, h0⟩, ⟨[_], _, rfl, ⟨rfl, h1⟩, ⟨[_], _, rfl, ⟨rfl, h2⟩, ⟨_, _, rfl, h3⟩⟩⟩⟩

theorem any_hit {α : Type} {p : α → Bool} {xs : List α} {k : Nat} (hk : k < xs.length) (h : p xs[k] = true) : xs.any p = true :=
  List.any_eq_true.2 ⟨_, List.getElem_mem hk, h⟩

theorem any_step {α : Type} {p : α → Bool} {xs : List α} {k : Nat} (hk : k < xs.length) (h0 : (xs.take k).any p = false) (h : p xs[k] = false) : (xs.take (k + 1)).any p = false := by
  rw [List.take_succ_eq_append_getElem hk, List.any_append, h0]; simp [h]

/-- Equality of two lists, element by element. -/
def eqL {α : Type} (p : α → α → Bool) : List α → List α → Bool
  | [], [] => true
  | x :: xs, y :: ys => p x y && eqL p xs ys
  | _, _ => false

theorem eqL_refl {α : Type} {p : α → α → Bool} (hp : ∀ x, p x x = true) : ∀ xs : List α, eqL p xs xs = true
  | [] => rfl
  | x :: xs => by rw [eqL, hp, eqL_refl hp xs]; rfl

theorem eqL_len {α : Type} {p : α → α → Bool} : ∀ (xs ys : List α), xs.length ≠ ys.length → eqL p xs ys = false
  | [], [], h => absurd rfl h
  | [], _ :: _, _ => rfl
  | _ :: _, [], _ => rfl
  | x :: xs, y :: ys, h => by rw [eqL, eqL_len xs ys (by simpa using h)]; simp

theorem eqL_get {α : Type} {p : α → α → Bool} : ∀ (xs ys : List α) (k : Nat) (h1 : k < xs.length) (h2 : k < ys.length), p xs[k] ys[k] = false → eqL p xs ys = false
  | x :: xs, y :: ys, 0, _, _, h => by rw [eqL]; simp at h; rw [h]; rfl
  | x :: xs, y :: ys, k + 1, h1, h2, h => by rw [eqL, eqL_get xs ys k (by simpa using h1) (by simpa using h2) (by simpa using h)]; simp

theorem eqL_all {α : Type} {p : α → α → Bool} : ∀ (xs ys : List α), xs.length = ys.length → (∀ k (h1 : k < xs.length) (h2 : k < ys.length), p xs[k] ys[k] = true) → eqL p xs ys = true
  | [], [], _, _ => rfl
  | x :: xs, y :: ys, hl, h => by
    have e : p x y = true := h 0 (Nat.zero_lt_succ _) (Nat.zero_lt_succ _)
    have e' : eqL p xs ys = true := eqL_all xs ys (by simpa using hl) fun k h1 h2 => h (k + 1) (Nat.succ_lt_succ h1) (Nat.succ_lt_succ h2)
    rw [eqL, e, e']; rfl
  | [], _ :: _, hl, _ => by simp at hl
  | _ :: _, [], hl, _ => by simp at hl

theorem eqL_eq {α : Type} {p : α → α → Bool} (hp : ∀ x y, p x y = true → x = y) : ∀ xs ys : List α, eqL p xs ys = true → xs = ys
  | [], [], _ => rfl
  | x :: xs, y :: ys, h => by
    rw [eqL, Bool.and_eq_true] at h
    rw [hp x y h.1, eqL_eq hp xs ys h.2]
  | [], _ :: _, h => by cases h
  | _ :: _, [], h => by cases h

theorem ret_bool {a b : Bool} (h : a = b) : Ending.returned (.bool a) = .returned (.bool b) := by rw [h]

theorem ret_int {k : IntKind} {a b : Int} (h : a = b) : Ending.returned (.int k a) = .returned (.int k b) := by rw [h]

def withinB (n lo hi : Int) : Bool := decide (lo ≤ n) && decide (n ≤ hi)

theorem withinB_true {n lo hi : Int} : withinB n lo hi = true ↔ lo ≤ n ∧ n ≤ hi := by
  unfold withinB; simp

theorem impl_within (n lo hi : Int) (w : World) :
    Calls Try.prog 65 #[.int .i64 n, .int .i64 lo, .int .i64 hi] w fun e w' => e = .returned (.bool (withinB n lo hi)) ∧ w = w' := by
  unfold withinB
  by_cases h1 : lo ≤ n
  · go_enter Try.func65, Try.ntmps65
    go_wp2
    go_ret
    exact ⟨by first | (simp; done) | simp [h1], rfl⟩
  · have h2 : decide (lo ≤ n) = false := by simpa using h1
    go_enter Try.func65, Try.ntmps65
    go_wp2
    go_ret
    exact ⟨by first | (simp; done) | simp [h2], rfl⟩

theorem spec_l00In (n lo hi : Int) (w : World) :
    Calls Try.prog 61 #[.int .i64 n, .int .i64 lo, .int .i64 hi] w fun e w' => e = .returned (.bool (withinB n lo hi)) ∧ w = w' := by
  unfold withinB
  by_cases h1 : lo ≤ n
  · go_enter Try.func61, Try.ntmps61
    go_wp2
    go_ret
    exact ⟨by first | (simp; done) | simp [h1], rfl⟩
  · have h2 : decide (lo ≤ n) = false := by simpa using h1
    go_enter Try.func61, Try.ntmps61
    go_wp2
    go_ret
    exact ⟨by first | (simp; done) | simp [h2], rfl⟩

theorem impl_size_Int64 (a : Option Addr) (n c : Nat) (w : World) :
    Calls Try.prog 116 #[.slice a n c] w fun e w' => e = .returned (.int .i64 n) ∧ w = w' := by
  go_enter Try.func116, Try.ntmps116
  go_wp2
  go_ret
  exact ⟨rfl, rfl⟩

def costL {α : Type} (f : α → Nat) (xs : List α) : Nat := xs.length + (xs.map f).sum

theorem costL_take {α : Type} (f : α → Nat) (xs : List α) (k : Nat) (h : k < xs.length) : ((xs.take (k + 1)).map f).sum = ((xs.take k).map f).sum + f xs[k] := by
  rw [List.take_succ_eq_append_getElem h, List.map_append, List.sum_append]; simp only [List.map_cons, List.map_nil, List.sum_cons, List.sum_nil, Nat.add_zero]

theorem cost_le {α : Type} (f : α → Nat) (xs : List α) (k : Nat) : ((xs.take k).map f).sum ≤ (xs.map f).sum := by
  have h : (xs.map f).sum = ((xs.take k).map f).sum + ((xs.drop k).map f).sum := by
    rw [← List.sum_append, ← List.map_append, List.take_append_drop]
  omega

/-- What the size functions of the laws answer. -/
def left (l : Int) (n : Nat) : Int := if l - n < 0 then -1 else l - n

theorem left_neg {l : Int} {n : Nat} (h : l - n < 0) : left l n = -1 := if_pos h

theorem left_pos {l : Int} {n : Nat} (h : ¬ l - n < 0) : left l n = l - n := if_neg h

def cost_L (xs : List Int) : Nat := xs.length

def cost_MultiRule (x : tMultiRule) : Nat := cost_L x.2.1 + cost_L x.2.2.1 + cost_L x.2.2.2.1

def cost_SMultiRule (xs : List tMultiRule) : Nat := costL cost_MultiRule xs

def cost_Multi (x : tMulti) : Nat := cost_SMultiRule x.2.2.2

theorem sz_Int64S (A : Option Addr) (c : Nat) (xs : List Int) (l : Int) (w : World) (h : Sl eInt w (Old w) A c xs) (h0 : 0 ≤ l) (h1 : l ≤ 1048576) :
    Calls Try.prog 75 #[.slice A xs.length c, .int .i64 l] w fun e w' => e = .returned (.int .i64 (left l (cost_L xs))) ∧ Below w.heap.size w w' := by
  have hlen := h.len
  clear h
  unfold cost_L
  by_cases hl : l - xs.length < 0
  · rw [left_neg hl]
    go_enter Try.func75, Try.ntmps75
    go_wp2
    go_ret
    exact ⟨rfl, Below.refl _ _⟩
  · rw [left_pos hl]
    go_enter Try.func75, Try.ntmps75
    go_wp2
    go_ret
    exact ⟨rfl, Below.refl _ _⟩

set_option maxHeartbeats 1000000 in
theorem sz_MultiRule (es : List Value) (x : tMultiRule) (l : Int) (w : World) (h : eMultiRule.R w (Old w) es x) (h0 : 0 ≤ l) (h1 : l ≤ 1048576) :
    Calls Try.prog 96 #[.agg es.toArray, .int .i64 l] w fun e w' => e = .returned (.int .i64 (left l (cost_MultiRule x))) ∧ Below w.heap.size w w' := by
  obtain ⟨A1, c1, A2, c2, A3, c3, rfl, g0, g1, g2, g3, g4⟩ := shape_MultiRule h
  have HT : Hid (cost_MultiRule x = cost_L x.2.1 + cost_L x.2.2.1 + cost_L x.2.2.2.1) := rfl
  have HB0 := Lib.hid ((Below.refl w.heap.size w).alloc (Nat.le_refl _) (.cells #[.int .i64 x.1, .slice A1 x.2.1.length c1, .slice A2 x.2.2.1.length c2, .slice A3 x.2.2.2.1.length c3, .int .i64 x.2.2.2.2] 126))
  have K1 := Lib.hid (g1.on HB0.out); clear g1
  have K2 := Lib.hid (g2.on HB0.out); clear g2
  have K3 := Lib.hid (g3.on HB0.out); clear g3
  clear g0 g4
  by_cases t0 : l - (cost_L x.2.1 : Nat) < 0
  · rw [left_neg (by rw [HT.out]; omega)]
    go_enter Try.func96, Try.ntmps96
    go_wp2_with fail
    refine (sz_Int64S _ _ x.2.1 _ _ K1.out (by omega) (by omega)).mono ?_
    rintro e w1 ⟨rfl, hb⟩
    rw [left_neg (by omega)]
    have HB1 := Lib.hid hb
    clear hb
    obtain ⟨hc, hf⟩ := bcell HB1.out
    go_wp2
    go_ret
    exact ⟨rfl, HB0.out.trans (HB1.out.mono HB0.out.size)⟩
  by_cases t1 : l - (cost_L x.2.1 : Nat) - (cost_L x.2.2.1 : Nat) < 0
  · rw [left_neg (by rw [HT.out]; omega)]
    go_enter Try.func96, Try.ntmps96
    go_wp2_with fail
    refine (sz_Int64S _ _ x.2.1 _ _ K1.out (by omega) (by omega)).mono ?_
    rintro e w1 ⟨rfl, hb⟩
    rw [left_pos (by omega)]
    have HB1 := Lib.hid hb
    clear hb
    obtain ⟨hc, hf⟩ := bcell HB1.out
    go_wp2_with fail
    refine (sz_Int64S _ _ x.2.2.1 _ _ (K2.out.on HB1.out) (by omega) (by omega)).mono ?_
    rintro e w2 ⟨rfl, hb⟩
    rw [left_neg (by omega)]
    have HB2 := Lib.hid (below_trans HB1.out hb)
    clear hb
    obtain ⟨hc, hf⟩ := bcell HB2.out
    go_wp2
    go_ret
    exact ⟨rfl, HB0.out.trans (HB2.out.mono HB0.out.size)⟩
  by_cases t2 : l - (cost_L x.2.1 : Nat) - (cost_L x.2.2.1 : Nat) - (cost_L x.2.2.2.1 : Nat) < 0
  · rw [left_neg (by rw [HT.out]; omega)]
    go_enter Try.func96, Try.ntmps96
    go_wp2_with fail
    refine (sz_Int64S _ _ x.2.1 _ _ K1.out (by omega) (by omega)).mono ?_
    rintro e w1 ⟨rfl, hb⟩
    rw [left_pos (by omega)]
    have HB1 := Lib.hid hb
    clear hb
    obtain ⟨hc, hf⟩ := bcell HB1.out
    go_wp2_with fail
    refine (sz_Int64S _ _ x.2.2.1 _ _ (K2.out.on HB1.out) (by omega) (by omega)).mono ?_
    rintro e w2 ⟨rfl, hb⟩
    rw [left_pos (by omega)]
    have HB2 := Lib.hid (below_trans HB1.out hb)
    clear hb
    obtain ⟨hc, hf⟩ := bcell HB2.out
    go_wp2_with fail
    refine (sz_Int64S _ _ x.2.2.2.1 _ _ (K3.out.on HB2.out) (by omega) (by omega)).mono ?_
    rintro e w3 ⟨rfl, hb⟩
    rw [left_neg (by omega)]
    have HB3 := Lib.hid (below_trans HB2.out hb)
    clear hb
    obtain ⟨hc, hf⟩ := bcell HB3.out
    go_wp2
    go_ret
    exact ⟨rfl, HB0.out.trans (HB3.out.mono HB0.out.size)⟩
  rw [left_pos (by rw [HT.out]; omega), show l - ((cost_MultiRule x : Nat) : Int) = l - (cost_L x.2.1 : Nat) - (cost_L x.2.2.1 : Nat) - (cost_L x.2.2.2.1 : Nat) from by rw [HT.out]; first | done | omega]
  go_enter Try.func96, Try.ntmps96
  go_wp2_with fail
  refine (sz_Int64S _ _ x.2.1 _ _ K1.out (by omega) (by omega)).mono ?_
  rintro e w1 ⟨rfl, hb⟩
  rw [left_pos (by omega)]
  have HB1 := Lib.hid hb
  clear hb
  obtain ⟨hc, hf⟩ := bcell HB1.out
  go_wp2_with fail
  refine (sz_Int64S _ _ x.2.2.1 _ _ (K2.out.on HB1.out) (by omega) (by omega)).mono ?_
  rintro e w2 ⟨rfl, hb⟩
  rw [left_pos (by omega)]
  have HB2 := Lib.hid (below_trans HB1.out hb)
  clear hb
  obtain ⟨hc, hf⟩ := bcell HB2.out
  go_wp2_with fail
  refine (sz_Int64S _ _ x.2.2.2.1 _ _ (K3.out.on HB2.out) (by omega) (by omega)).mono ?_
  rintro e w3 ⟨rfl, hb⟩
  rw [left_pos (by omega)]
  have HB3 := Lib.hid (below_trans HB2.out hb)
  clear hb
  obtain ⟨hc, hf⟩ := bcell HB3.out
  go_wp2
  go_ret
  exact ⟨rfl, HB0.out.trans (HB3.out.mono HB0.out.size)⟩

set_option maxHeartbeats 1000000 in
theorem sz_MultiRuleS (A : Option Addr) (c : Nat) (xs : List tMultiRule) (l : Int) (w : World) (h : Sl eMultiRule w (Old w) A c xs) (h0 : 0 ≤ l) (h1 : l ≤ 1048576) :
    Calls Try.prog 59 #[.slice A xs.length c, .int .i64 l] w fun e w' => e = .returned (.int .i64 (left l (cost_SMultiRule xs))) ∧ Below w.heap.size w w' := by
  have hlen := h.len
  have H := Lib.hid h; clear h
  have HC : Hid (cost_SMultiRule xs = xs.length + (xs.map cost_MultiRule).sum) := rfl
  by_cases hl : l - xs.length < 0
  · rw [left_neg (by rw [HC.out]; omega)]
    go_enter Try.func59, Try.ntmps59
    go_wp2
    go_ret
    exact ⟨rfl, Below.refl _ _⟩
  · go_enter Try.func59, Try.ntmps59
    go_wp2
    go_loopw [1, 5] (fun s1 s5 wr => ∃ (k : Nat) (m : Int), k ≤ xs.length ∧ s5 = .int .i64 k ∧ s1 = .int .i64 m ∧ 0 ≤ m ∧ m ≤ 1048576 ∧ Hid (m = l - xs.length - ((xs.take k).map cost_MultiRule).sum) ∧ Hid (Below w.heap.size w wr)) (fun _ s5 _ => xs.length - (intOf s5).toNat)
    case atStart => exact ⟨0, _, Nat.zero_le _, rfl, rfl, by omega, by omega, by show _ = _; simp, Below.refl _ w⟩
    case round =>
      obtain ⟨k, m, hk, rfl, rfl, hm0, hm1, HM, BW⟩ := hrel
      by_cases hlt : k < xs.length
      · have hltz : (k : Int) < (xs.length : Int) := by omega
        obtain ⟨b, off, es, rfl, hb, hR, hc⟩ := H.out.at hlt
        have HS := Lib.hid (costL_take cost_MultiRule xs k hlt)
        have HLE := Lib.hid (cost_le cost_MultiRule xs (k + 1))
        have HC2 : Hid (∀ l, 0 ≤ l → l ≤ 1048576 → Calls Try.prog 96 #[.agg es.toArray, .int .i64 l] wr _) := fun l h0 h1 => sz_MultiRule es xs[k] l wr (eMultiRule.on hR BW.out) h0 h1
        obtain ⟨Aq1, cq1, Aq2, cq2, Aq3, cq3, rfl, gq0, gq1, gq2, gq3, gq4⟩ := shape_MultiRule hR
        have d0 : wr.cell? ⟨b, off + k * 5, none⟩ = some (.int .i64 xs[k].1) := (below_olds BW.out _ hb).trans (hc 0 _ rfl)
        have d1 : wr.cell? ⟨b, off + k * 5 + 1, none⟩ = some (.slice Aq1 xs[k].2.1.length cq1) := (below_olds BW.out _ hb).trans (hc 1 _ rfl)
        have d2 : wr.cell? ⟨b, off + k * 5 + 2, none⟩ = some (.slice Aq2 xs[k].2.2.1.length cq2) := (below_olds BW.out _ hb).trans (hc 2 _ rfl)
        have d3 : wr.cell? ⟨b, off + k * 5 + 3, none⟩ = some (.slice Aq3 xs[k].2.2.2.1.length cq3) := (below_olds BW.out _ hb).trans (hc 3 _ rfl)
        have d4 : wr.cell? ⟨b, off + k * 5 + 4, none⟩ = some (.int .i64 xs[k].2.2.2.2) := (below_olds BW.out _ hb).trans (hc 4 _ rfl)
        clear hc gq0 gq1 gq2 gq3 gq4
        try clear hR
        generalize xs[k] = y at d0 d1 d2 d3 d4 HC2 HS
        by_cases hz : m - cost_MultiRule y < 0
        · go_wp2_with fail
          refine (HC2.out m hm0 hm1).mono ?_
          rintro e w2 ⟨rfl, hb2⟩
          rw [left_neg (by omega)]
          go_wp2
          go_ret
          exact ⟨by rw [left_neg (by rw [HC.out]; have := HM.out; have := HS.out; have := HLE.out; omega)]; rfl, below_trans BW.out hb2⟩
        · have hz1 : 0 ≤ m - cost_MultiRule y := by omega
          go_wp2_with fail
          refine (HC2.out m hm0 hm1).mono ?_
          rintro e w2 ⟨rfl, hb2⟩
          rw [left_pos (by omega)]
          go_wp2
          go_roundw
          case rel => exact ⟨k + 1, m - cost_MultiRule y, by omega, by go_num, rfl, by omega, by omega, by show _ = _; have := HM.out; have := HS.out; omega, below_trans BW.out hb2⟩
          case measure => simp [intOf]; omega
      · have hltz : ¬ (k : Int) < (xs.length : Int) := by omega
        obtain rfl : k = xs.length := by omega
        go_wp2
        go_ret
        have h2 := HM.out
        rw [List.take_length] at h2
        exact ⟨by rw [left_pos (by rw [HC.out]; omega), HC.out, show l - ((xs.length + (xs.map cost_MultiRule).sum : Nat) : Int) = m from by omega]; rfl, BW.out⟩

set_option maxHeartbeats 1000000 in
theorem sz_Multi (es : List Value) (x : tMulti) (l : Int) (w : World) (h : eMulti.R w (Old w) es x) (h0 : 0 ≤ l) (h1 : l ≤ 1048576) :
    Calls Try.prog 26 #[.agg es.toArray, .int .i64 l] w fun e w' => e = .returned (.int .i64 (left l (cost_Multi x))) ∧ Below w.heap.size w w' := by
  obtain ⟨A3, c3, rfl, g0, g1, g2, g3⟩ := shape_Multi h
  have HT : Hid (cost_Multi x = cost_SMultiRule x.2.2.2) := rfl
  have HB0 := Lib.hid ((Below.refl w.heap.size w).alloc (Nat.le_refl _) (.cells #[.int .i64 x.1, .int .i64 x.2.1, .int .i64 x.2.2.1, .slice A3 x.2.2.2.length c3] 48))
  have K3 := Lib.hid (g3.on HB0.out); clear g3
  clear g0 g1 g2
  by_cases t0 : l - (cost_SMultiRule x.2.2.2 : Nat) < 0
  · rw [left_neg (by rw [HT.out]; omega)]
    go_enter Try.func26, Try.ntmps26
    go_wp2_with fail
    refine (sz_MultiRuleS _ _ x.2.2.2 _ _ K3.out (by omega) (by omega)).mono ?_
    rintro e w1 ⟨rfl, hb⟩
    rw [left_neg (by omega)]
    have HB1 := Lib.hid hb
    clear hb
    obtain ⟨hc, hf⟩ := bcell HB1.out
    go_wp2
    go_ret
    exact ⟨rfl, HB0.out.trans (HB1.out.mono HB0.out.size)⟩
  rw [left_pos (by rw [HT.out]; omega), show l - ((cost_Multi x : Nat) : Int) = l - (cost_SMultiRule x.2.2.2 : Nat) from by rw [HT.out]; first | done | omega]
  go_enter Try.func26, Try.ntmps26
  go_wp2_with fail
  refine (sz_MultiRuleS _ _ x.2.2.2 _ _ K3.out (by omega) (by omega)).mono ?_
  rintro e w1 ⟨rfl, hb⟩
  rw [left_pos (by omega)]
  have HB1 := Lib.hid hb
  clear hb
  obtain ⟨hc, hf⟩ := bcell HB1.out
  go_wp2
  go_ret
  exact ⟨rfl, HB0.out.trans (HB1.out.mono HB0.out.size)⟩

def eq_i (x y : Int) : Bool := x == y

def eq_L (x y : List Int) : Bool := eqL eq_i x y

theorem eq_i_refl (x : Int) : eq_i x x = true := by simp [eq_i]

theorem eq_L_refl (x : List Int) : eq_L x x = true := eqL_refl eq_i_refl x

def eq_MultiRule (x y : tMultiRule) : Bool := eq_i x.1 y.1 && eq_L x.2.1 y.2.1 && eq_L x.2.2.1 y.2.2.1 && eq_L x.2.2.2.1 y.2.2.2.1 && eq_i x.2.2.2.2 y.2.2.2.2

theorem eq_MultiRule_refl (x : tMultiRule) : eq_MultiRule x x = true := by unfold eq_MultiRule; simp [eq_L_refl, eq_i_refl]

def eq_SMultiRule (x y : List tMultiRule) : Bool := eqL eq_MultiRule x y

theorem eq_SMultiRule_refl (x : List tMultiRule) : eq_SMultiRule x x = true := eqL_refl eq_MultiRule_refl x

def eq_Multi (x y : tMulti) : Bool := eq_i x.1 y.1 && eq_i x.2.1 y.2.1 && eq_i x.2.2.1 y.2.2.1 && eq_SMultiRule x.2.2.2 y.2.2.2

theorem eq_Multi_refl (x : tMulti) : eq_Multi x x = true := by unfold eq_Multi; simp [eq_SMultiRule_refl, eq_i_refl]

set_option maxRecDepth 100000 in
set_option maxHeartbeats 1000000 in
theorem eq_L_c (A A' : Option Addr) (c c' : Nat) (xs ys : List Int) (w : World) (h : Sl eInt w (Old w) A c xs) (h' : Sl eInt w (Old w) A' c' ys) :
    Calls Try.prog 21 #[.slice A xs.length c, .slice A' ys.length c'] w fun e w' => e = .returned (.bool (eq_L xs ys)) ∧ Below w.heap.size w w' := by
  have hlen := h.len
  have hlen' := h'.len
  unfold eq_L
  by_cases hne : xs.length = ys.length
  · have hne' : ((xs.length : Int) != (ys.length : Int)) = false := by simp [hne]
    have HE := Lib.hid hne; clear hne
    have H := Lib.hid h; clear h
    have H' := Lib.hid h'; clear h'
    go_enter Try.func21, Try.ntmps21
    go_wp2
    clear hne'
    go_loopw [5] (fun s5 wr => ∃ k : Nat, k ≤ xs.length ∧ s5 = .int .i64 k ∧ Hid (Below w.heap.size w wr) ∧ Hid (∀ j (h1 : j < xs.length) (h2 : j < ys.length), j < k → eq_i xs[j] ys[j] = true)) (fun s5 _ => xs.length - (intOf s5).toNat)
    case atStart => exact ⟨0, Nat.zero_le _, rfl, Below.refl _ _, fun j _ _ h => absurd h (Nat.not_lt_zero _)⟩
    case round =>
      obtain ⟨k, hk, rfl, HL, HN⟩ := hrel
      by_cases hlt : k < xs.length
      · have hltz : (k : Int) < (xs.length : Int) := by omega
        have hlt' : k < ys.length := by have := HE.out; omega
        have hltz' : (k : Int) < (ys.length : Int) := by omega
        obtain ⟨bp, offp, esp, rfl, hbp, hR, hc⟩ := H.out.at1 rfl hlt
        obtain ⟨rfl, gp⟩ := hR
        have dp0 : wr.cell? ⟨bp, offp + k, none⟩ = some (.int .i64 xs[k]) := (below_olds HL.out _ hbp).trans (hc _ rfl)
        clear hc gp
        try clear hR
        obtain ⟨bq, offq, esq, rfl, hbq, hR, hc⟩ := H'.out.at1 rfl hlt'
        obtain ⟨rfl, gq⟩ := hR
        have dq0 : wr.cell? ⟨bq, offq + k, none⟩ = some (.int .i64 ys[k]) := (below_olds HL.out _ hbq).trans (hc _ rfl)
        clear hc gq
        try clear hR
        have HQ0 : Hid (eq_i xs[k] ys[k] = false → eqL eq_i xs ys = false) := eqL_get xs ys k hlt hlt'
        have HQ1 : Hid (eq_i xs[k] ys[k] = true → ∀ j (h1 : j < xs.length) (h2 : j < ys.length), j < k + 1 → eq_i xs[j] ys[j] = true) := fun e j h1 h2 hj => by
          by_cases ej : j = k
          · subst ej; exact e
          · exact HN.out j h1 h2 (by omega)
        generalize xs[k] = x at dp0 HQ0 HQ1
        generalize ys[k] = y at dq0 HQ0 HQ1
        cases hq : eq_i x y
        · have hq' : (x != y) = true := by simp [eq_i] at hq; simp [hq]
          go_wp2_with fail
          go_quiet (fail)
          go_wp2
          go_ret
          exact ⟨by rw [HQ0.out hq]; rfl, below_drewN HL.out _⟩
        · have hq' : (x != y) = false := by simp [eq_i] at hq; simp [hq]
          go_wp2_with fail
          go_quiet (fail)
          go_wp2
          go_roundw
          case rel => exact ⟨k + 1, by omega, by go_num, below_drewN HL.out _, HQ1.out hq⟩
          case measure => simp [intOf]; omega
      · have hltz : ¬ (k : Int) < (xs.length : Int) := by omega
        obtain rfl : k = xs.length := by omega
        go_wp2
        go_ret
        exact ⟨by rw [eqL_all xs ys HE.out fun j h1 h2 => HN.out j h1 h2 h1]; rfl, HL.out⟩
  · have hne' : ((xs.length : Int) != (ys.length : Int)) = true := by simp; omega
    rw [eqL_len xs ys hne]
    clear h h' hne
    go_enter Try.func21, Try.ntmps21
    go_wp2
    go_ret
    exact ⟨rfl, Below.refl _ _⟩

set_option maxHeartbeats 1000000 in
theorem eq_MultiRule_c (es es' : List Value) (x y : tMultiRule) (w : World) (h : eMultiRule.R w (Old w) es x) (h' : eMultiRule.R w (Old w) es' y) :
    Calls Try.prog 105 #[.agg es.toArray, .agg es'.toArray] w fun e w' => e = .returned (.bool (eq_MultiRule x y)) ∧ Below w.heap.size w w' := by
  obtain ⟨Ax1, cx1, Ax2, cx2, Ax3, cx3, rfl, gx0, gx1, gx2, gx3, gx4⟩ := shape_MultiRule h
  obtain ⟨Ay1, cy1, Ay2, cy2, Ay3, cy3, rfl, gy0, gy1, gy2, gy3, gy4⟩ := shape_MultiRule h'
  have HB0 := Lib.hid (((Below.refl w.heap.size w).alloc (Nat.le_refl _) (.cells #[.int .i64 x.1, .slice Ax1 x.2.1.length cx1, .slice Ax2 x.2.2.1.length cx2, .slice Ax3 x.2.2.2.1.length cx3, .int .i64 x.2.2.2.2] 104)).alloc (by simp) (.cells #[.int .i64 y.1, .slice Ay1 y.2.1.length cy1, .slice Ay2 y.2.2.1.length cy2, .slice Ay3 y.2.2.2.1.length cy3, .int .i64 y.2.2.2.2] 104))
  have HX1 := Lib.hid (gx1.on HB0.out); clear gx1
  have HY1 := Lib.hid (gy1.on HB0.out); clear gy1
  have HX2 := Lib.hid (gx2.on HB0.out); clear gx2
  have HY2 := Lib.hid (gy2.on HB0.out); clear gy2
  have HX3 := Lib.hid (gx3.on HB0.out); clear gx3
  have HY3 := Lib.hid (gy3.on HB0.out); clear gy3
  clear gx0 gy0 gx4 gy4
  cases t0 : eq_i x.1 y.1
  · rw [show eq_MultiRule x y = false from by unfold eq_MultiRule; simp [t0]]
    have t0' : (x.1 != y.1) = true := by simp only [eq_i] at t0; simp [bne, t0]
    go_enter Try.func105, Try.ntmps105
    go_wp2
    go_ret
    exact ⟨rfl, HB0.out⟩
  have t0' : (x.1 != y.1) = false := by simp only [eq_i] at t0; simp [bne, t0]
  cases t1 : eq_L x.2.1 y.2.1
  · rw [show eq_MultiRule x y = false from by unfold eq_MultiRule; simp [t0, t1]]
    go_enter Try.func105, Try.ntmps105
    go_wp2_with fail
    refine (eq_L_c _ _ _ _ x.2.1 y.2.1 _ HX1.out HY1.out).mono ?_
    rintro e w1 ⟨rfl, hb⟩
    rw [t1]
    have HB1 := Lib.hid hb
    clear hb
    obtain ⟨hc, hf⟩ := bcell HB1.out
    go_wp2
    go_ret
    exact ⟨rfl, below_trans HB0.out HB1.out⟩
  cases t2 : eq_L x.2.2.1 y.2.2.1
  · rw [show eq_MultiRule x y = false from by unfold eq_MultiRule; simp [t0, t1, t2]]
    go_enter Try.func105, Try.ntmps105
    go_wp2_with fail
    refine (eq_L_c _ _ _ _ x.2.1 y.2.1 _ HX1.out HY1.out).mono ?_
    rintro e w1 ⟨rfl, hb⟩
    rw [t1]
    have HB1 := Lib.hid hb
    clear hb
    obtain ⟨hc, hf⟩ := bcell HB1.out
    go_wp2_with fail
    refine (eq_L_c _ _ _ _ x.2.2.1 y.2.2.1 _ (HX2.out.on HB1.out) (HY2.out.on HB1.out)).mono ?_
    rintro e w2 ⟨rfl, hb⟩
    rw [t2]
    have HB2 := Lib.hid (below_trans HB1.out hb)
    clear hb
    obtain ⟨hc, hf⟩ := bcell HB2.out
    go_wp2
    go_ret
    exact ⟨rfl, below_trans HB0.out HB2.out⟩
  cases t3 : eq_L x.2.2.2.1 y.2.2.2.1
  · rw [show eq_MultiRule x y = false from by unfold eq_MultiRule; simp [t0, t1, t2, t3]]
    go_enter Try.func105, Try.ntmps105
    go_wp2_with fail
    refine (eq_L_c _ _ _ _ x.2.1 y.2.1 _ HX1.out HY1.out).mono ?_
    rintro e w1 ⟨rfl, hb⟩
    rw [t1]
    have HB1 := Lib.hid hb
    clear hb
    obtain ⟨hc, hf⟩ := bcell HB1.out
    go_wp2_with fail
    refine (eq_L_c _ _ _ _ x.2.2.1 y.2.2.1 _ (HX2.out.on HB1.out) (HY2.out.on HB1.out)).mono ?_
    rintro e w2 ⟨rfl, hb⟩
    rw [t2]
    have HB2 := Lib.hid (below_trans HB1.out hb)
    clear hb
    obtain ⟨hc, hf⟩ := bcell HB2.out
    go_wp2_with fail
    refine (eq_L_c _ _ _ _ x.2.2.2.1 y.2.2.2.1 _ (HX3.out.on HB2.out) (HY3.out.on HB2.out)).mono ?_
    rintro e w3 ⟨rfl, hb⟩
    rw [t3]
    have HB3 := Lib.hid (below_trans HB2.out hb)
    clear hb
    obtain ⟨hc, hf⟩ := bcell HB3.out
    go_wp2
    go_ret
    exact ⟨rfl, below_trans HB0.out HB3.out⟩
  cases t4 : eq_i x.2.2.2.2 y.2.2.2.2
  · rw [show eq_MultiRule x y = false from by unfold eq_MultiRule; simp [t0, t1, t2, t3, t4]]
    have t4' : (x.2.2.2.2 != y.2.2.2.2) = true := by simp only [eq_i] at t4; simp [bne, t4]
    go_enter Try.func105, Try.ntmps105
    go_wp2_with fail
    refine (eq_L_c _ _ _ _ x.2.1 y.2.1 _ HX1.out HY1.out).mono ?_
    rintro e w1 ⟨rfl, hb⟩
    rw [t1]
    have HB1 := Lib.hid hb
    clear hb
    obtain ⟨hc, hf⟩ := bcell HB1.out
    go_wp2_with fail
    refine (eq_L_c _ _ _ _ x.2.2.1 y.2.2.1 _ (HX2.out.on HB1.out) (HY2.out.on HB1.out)).mono ?_
    rintro e w2 ⟨rfl, hb⟩
    rw [t2]
    have HB2 := Lib.hid (below_trans HB1.out hb)
    clear hb
    obtain ⟨hc, hf⟩ := bcell HB2.out
    go_wp2_with fail
    refine (eq_L_c _ _ _ _ x.2.2.2.1 y.2.2.2.1 _ (HX3.out.on HB2.out) (HY3.out.on HB2.out)).mono ?_
    rintro e w3 ⟨rfl, hb⟩
    rw [t3]
    have HB3 := Lib.hid (below_trans HB2.out hb)
    clear hb
    obtain ⟨hc, hf⟩ := bcell HB3.out
    go_wp2
    go_ret
    exact ⟨rfl, below_trans HB0.out HB3.out⟩
  have t4' : (x.2.2.2.2 != y.2.2.2.2) = false := by simp only [eq_i] at t4; simp [bne, t4]
  rw [show eq_MultiRule x y = true from by unfold eq_MultiRule; simp [t0, t1, t2, t3, t4]]
  go_enter Try.func105, Try.ntmps105
  go_wp2_with fail
  refine (eq_L_c _ _ _ _ x.2.1 y.2.1 _ HX1.out HY1.out).mono ?_
  rintro e w1 ⟨rfl, hb⟩
  rw [t1]
  have HB1 := Lib.hid hb
  clear hb
  obtain ⟨hc, hf⟩ := bcell HB1.out
  go_wp2_with fail
  refine (eq_L_c _ _ _ _ x.2.2.1 y.2.2.1 _ (HX2.out.on HB1.out) (HY2.out.on HB1.out)).mono ?_
  rintro e w2 ⟨rfl, hb⟩
  rw [t2]
  have HB2 := Lib.hid (below_trans HB1.out hb)
  clear hb
  obtain ⟨hc, hf⟩ := bcell HB2.out
  go_wp2_with fail
  refine (eq_L_c _ _ _ _ x.2.2.2.1 y.2.2.2.1 _ (HX3.out.on HB2.out) (HY3.out.on HB2.out)).mono ?_
  rintro e w3 ⟨rfl, hb⟩
  rw [t3]
  have HB3 := Lib.hid (below_trans HB2.out hb)
  clear hb
  obtain ⟨hc, hf⟩ := bcell HB3.out
  go_wp2
  go_ret
  exact ⟨rfl, below_trans HB0.out HB3.out⟩

set_option maxRecDepth 100000 in
set_option maxHeartbeats 1000000 in
theorem eq_SMultiRule_c (A A' : Option Addr) (c c' : Nat) (xs ys : List tMultiRule) (w : World) (h : Sl eMultiRule w (Old w) A c xs) (h' : Sl eMultiRule w (Old w) A' c' ys) :
    Calls Try.prog 67 #[.slice A xs.length c, .slice A' ys.length c'] w fun e w' => e = .returned (.bool (eq_SMultiRule xs ys)) ∧ Below w.heap.size w w' := by
  have hlen := h.len
  have hlen' := h'.len
  unfold eq_SMultiRule
  by_cases hne : xs.length = ys.length
  · have hne' : ((xs.length : Int) != (ys.length : Int)) = false := by simp [hne]
    have HE := Lib.hid hne; clear hne
    have H := Lib.hid h; clear h
    have H' := Lib.hid h'; clear h'
    go_enter Try.func67, Try.ntmps67
    go_wp2
    clear hne'
    go_loopw [5] (fun s5 wr => ∃ k : Nat, k ≤ xs.length ∧ s5 = .int .i64 k ∧ Hid (Below w.heap.size w wr) ∧ Hid (∀ j (h1 : j < xs.length) (h2 : j < ys.length), j < k → eq_MultiRule xs[j] ys[j] = true)) (fun s5 _ => xs.length - (intOf s5).toNat)
    case atStart => exact ⟨0, Nat.zero_le _, rfl, Below.refl _ _, fun j _ _ h => absurd h (Nat.not_lt_zero _)⟩
    case round =>
      obtain ⟨k, hk, rfl, HL, HN⟩ := hrel
      by_cases hlt : k < xs.length
      · have hltz : (k : Int) < (xs.length : Int) := by omega
        have hlt' : k < ys.length := by have := HE.out; omega
        have hltz' : (k : Int) < (ys.length : Int) := by omega
        obtain ⟨bp, offp, esp, rfl, hbp, hR, hc⟩ := H.out.at hlt
        have HRp := Lib.hid (eMultiRule.on hR HL.out)
        obtain ⟨Ap1, cp1, Ap2, cp2, Ap3, cp3, rfl, gp0, gp1, gp2, gp3, gp4⟩ := shape_MultiRule hR
        have dp0 : wr.cell? ⟨bp, offp + k * 5, none⟩ = some (.int .i64 xs[k].1) := (below_olds HL.out _ hbp).trans (hc 0 _ rfl)
        have dp1 : wr.cell? ⟨bp, offp + k * 5 + 1, none⟩ = some (.slice Ap1 xs[k].2.1.length cp1) := (below_olds HL.out _ hbp).trans (hc 1 _ rfl)
        have dp2 : wr.cell? ⟨bp, offp + k * 5 + 2, none⟩ = some (.slice Ap2 xs[k].2.2.1.length cp2) := (below_olds HL.out _ hbp).trans (hc 2 _ rfl)
        have dp3 : wr.cell? ⟨bp, offp + k * 5 + 3, none⟩ = some (.slice Ap3 xs[k].2.2.2.1.length cp3) := (below_olds HL.out _ hbp).trans (hc 3 _ rfl)
        have dp4 : wr.cell? ⟨bp, offp + k * 5 + 4, none⟩ = some (.int .i64 xs[k].2.2.2.2) := (below_olds HL.out _ hbp).trans (hc 4 _ rfl)
        clear hc gp0 gp1 gp2 gp3 gp4
        try clear hR
        obtain ⟨bq, offq, esq, rfl, hbq, hR, hc⟩ := H'.out.at hlt'
        have HRq := Lib.hid (eMultiRule.on hR HL.out)
        obtain ⟨Aq1, cq1, Aq2, cq2, Aq3, cq3, rfl, gq0, gq1, gq2, gq3, gq4⟩ := shape_MultiRule hR
        have dq0 : wr.cell? ⟨bq, offq + k * 5, none⟩ = some (.int .i64 ys[k].1) := (below_olds HL.out _ hbq).trans (hc 0 _ rfl)
        have dq1 : wr.cell? ⟨bq, offq + k * 5 + 1, none⟩ = some (.slice Aq1 ys[k].2.1.length cq1) := (below_olds HL.out _ hbq).trans (hc 1 _ rfl)
        have dq2 : wr.cell? ⟨bq, offq + k * 5 + 2, none⟩ = some (.slice Aq2 ys[k].2.2.1.length cq2) := (below_olds HL.out _ hbq).trans (hc 2 _ rfl)
        have dq3 : wr.cell? ⟨bq, offq + k * 5 + 3, none⟩ = some (.slice Aq3 ys[k].2.2.2.1.length cq3) := (below_olds HL.out _ hbq).trans (hc 3 _ rfl)
        have dq4 : wr.cell? ⟨bq, offq + k * 5 + 4, none⟩ = some (.int .i64 ys[k].2.2.2.2) := (below_olds HL.out _ hbq).trans (hc 4 _ rfl)
        clear hc gq0 gq1 gq2 gq3 gq4
        try clear hR
        have HQ0 : Hid (eq_MultiRule xs[k] ys[k] = false → eqL eq_MultiRule xs ys = false) := eqL_get xs ys k hlt hlt'
        have HQ1 : Hid (eq_MultiRule xs[k] ys[k] = true → ∀ j (h1 : j < xs.length) (h2 : j < ys.length), j < k + 1 → eq_MultiRule xs[j] ys[j] = true) := fun e j h1 h2 hj => by
          by_cases ej : j = k
          · subst ej; exact e
          · exact HN.out j h1 h2 (by omega)
        generalize xs[k] = x at dp0 dp1 dp2 dp3 dp4 HRp HQ0 HQ1
        generalize ys[k] = y at dq0 dq1 dq2 dq3 dq4 HRq HQ0 HQ1
        go_wp2_with fail
        go_still_tail 8, (by kernel_rfl)
        cases hq : eq_MultiRule x y
        · go_wp2_with fail
          refine (eq_MultiRule_c _ _ x y _ (eMultiRule.on HRp.out (Below.refl _ _).drew) (eMultiRule.on HRq.out (Below.refl _ _).drew)).mono ?_
          rintro e w2 ⟨rfl, hb2⟩
          rw [hq]
          go_wp2
          go_ret
          exact ⟨by rw [HQ0.out hq]; rfl, HL.out.drew.trans (hb2.mono HL.out.size)⟩
        · go_wp2_with fail
          refine (eq_MultiRule_c _ _ x y _ (eMultiRule.on HRp.out (Below.refl _ _).drew) (eMultiRule.on HRq.out (Below.refl _ _).drew)).mono ?_
          rintro e w2 ⟨rfl, hb2⟩
          rw [hq]
          go_wp2
          go_roundw
          case rel => exact ⟨k + 1, by omega, by go_num, HL.out.drew.trans (hb2.mono HL.out.size), HQ1.out hq⟩
          case measure => simp [intOf]; omega
      · have hltz : ¬ (k : Int) < (xs.length : Int) := by omega
        obtain rfl : k = xs.length := by omega
        go_wp2
        go_ret
        exact ⟨by rw [eqL_all xs ys HE.out fun j h1 h2 => HN.out j h1 h2 h1]; rfl, HL.out⟩
  · have hne' : ((xs.length : Int) != (ys.length : Int)) = true := by simp; omega
    rw [eqL_len xs ys hne]
    clear h h' hne
    go_enter Try.func67, Try.ntmps67
    go_wp2
    go_ret
    exact ⟨rfl, Below.refl _ _⟩

set_option maxHeartbeats 1000000 in
theorem eq_Multi_c (es es' : List Value) (x y : tMulti) (w : World) (h : eMulti.R w (Old w) es x) (h' : eMulti.R w (Old w) es' y) :
    Calls Try.prog 31 #[.agg es.toArray, .agg es'.toArray] w fun e w' => e = .returned (.bool (eq_Multi x y)) ∧ Below w.heap.size w w' := by
  obtain ⟨Ax3, cx3, rfl, gx0, gx1, gx2, gx3⟩ := shape_Multi h
  obtain ⟨Ay3, cy3, rfl, gy0, gy1, gy2, gy3⟩ := shape_Multi h'
  have HB0 := Lib.hid (((Below.refl w.heap.size w).alloc (Nat.le_refl _) (.cells #[.int .i64 x.1, .int .i64 x.2.1, .int .i64 x.2.2.1, .slice Ax3 x.2.2.2.length cx3] 55)).alloc (by simp) (.cells #[.int .i64 y.1, .int .i64 y.2.1, .int .i64 y.2.2.1, .slice Ay3 y.2.2.2.length cy3] 55))
  have HX3 := Lib.hid (gx3.on HB0.out); clear gx3
  have HY3 := Lib.hid (gy3.on HB0.out); clear gy3
  clear gx0 gy0 gx1 gy1 gx2 gy2
  cases t0 : eq_i x.1 y.1
  · rw [show eq_Multi x y = false from by unfold eq_Multi; simp [t0]]
    have t0' : (x.1 != y.1) = true := by simp only [eq_i] at t0; simp [bne, t0]
    go_enter Try.func31, Try.ntmps31
    go_wp2
    go_ret
    exact ⟨rfl, HB0.out⟩
  have t0' : (x.1 != y.1) = false := by simp only [eq_i] at t0; simp [bne, t0]
  cases t1 : eq_i x.2.1 y.2.1
  · rw [show eq_Multi x y = false from by unfold eq_Multi; simp [t0, t1]]
    have t1' : (x.2.1 != y.2.1) = true := by simp only [eq_i] at t1; simp [bne, t1]
    go_enter Try.func31, Try.ntmps31
    go_wp2
    go_ret
    exact ⟨rfl, HB0.out⟩
  have t1' : (x.2.1 != y.2.1) = false := by simp only [eq_i] at t1; simp [bne, t1]
  cases t2 : eq_i x.2.2.1 y.2.2.1
  · rw [show eq_Multi x y = false from by unfold eq_Multi; simp [t0, t1, t2]]
    have t2' : (x.2.2.1 != y.2.2.1) = true := by simp only [eq_i] at t2; simp [bne, t2]
    go_enter Try.func31, Try.ntmps31
    go_wp2
    go_ret
    exact ⟨rfl, HB0.out⟩
  have t2' : (x.2.2.1 != y.2.2.1) = false := by simp only [eq_i] at t2; simp [bne, t2]
  cases t3 : eq_SMultiRule x.2.2.2 y.2.2.2
  · rw [show eq_Multi x y = false from by unfold eq_Multi; simp [t0, t1, t2, t3]]
    go_enter Try.func31, Try.ntmps31
    go_wp2_with fail
    refine (eq_SMultiRule_c _ _ _ _ x.2.2.2 y.2.2.2 _ HX3.out HY3.out).mono ?_
    rintro e w1 ⟨rfl, hb⟩
    rw [t3]
    have HB1 := Lib.hid hb
    clear hb
    obtain ⟨hc, hf⟩ := bcell HB1.out
    go_wp2
    go_ret
    exact ⟨rfl, below_trans HB0.out HB1.out⟩
  rw [show eq_Multi x y = true from by unfold eq_Multi; simp [t0, t1, t2, t3]]
  go_enter Try.func31, Try.ntmps31
  go_wp2_with fail
  refine (eq_SMultiRule_c _ _ _ _ x.2.2.2 y.2.2.2 _ HX3.out HY3.out).mono ?_
  rintro e w1 ⟨rfl, hb⟩
  rw [t3]
  have HB1 := Lib.hid hb
  clear hb
  obtain ⟨hc, hf⟩ := bcell HB1.out
  go_wp2
  go_ret
  exact ⟨rfl, below_trans HB0.out HB1.out⟩

theorem cost_mem {α : Type} (f : α → Nat) (xs : List α) (k : Nat) (h : k < xs.length) : f xs[k] + xs.length ≤ costL f xs := by
  have h1 := costL_take f xs k h
  have h2 := cost_le f xs (k + 1)
  unfold costL
  omega

theorem info_impl_Int64 : (Try.prog.info? 2).map (fun i => (i.zero, i.size, i.bytes)) = some (some (.int .i64 0), 1, 8) := by kernel_rfl

set_option maxHeartbeats 1000000 in
theorem to_Int64S (A : Option Addr) (c : Nat) (xs : List Int) (w : World) (h : Sl eInt w (Old w) A c xs) (hsm : cost_L xs ≤ 1048576) :
    Calls Try.prog 77 #[.slice A xs.length c] w fun e w' => ∃ A' c', e = .returned (.slice A' xs.length c') ∧ So eInt w' (Fr w w') A' c' xs ∧ Below w.heap.size w w' := by
  obtain ⟨i0, hi0, hz0, hz1, hz2⟩ := info_parts info_impl_Int64
  have hlen := h.len
  have hsl : xs.length ≤ 1048576 := by exact hsm
  have HCO := Lib.hid hsm; clear hsm
  have H := Lib.hid h; clear h
  go_enter Try.func77, Try.ntmps77
  go_wp2_with (at_make; refine wpList_make_full _ rfl _ _ 37 rfl w.heap.size 2 i0 _ 1 Try.underlying37 hi0 hz0 hz1 _ _ _ _ xs.length rfl rfl rfl rfl (by rw [hz2]; omega) (by unfold maxLen; omega) (Nat.le_refl _) ?_)
  intro w1 hown hgrow
  obtain ⟨cur, hB, hs, ht, hn1, hn2⟩ := Blk.of_own hown
  have HB := Lib.hid hB; clear hB
  have HS : Hid (cur.size = xs.length) := by show _ = _; omega
  have hbel : Below w.heap.size w w1 := (Below.refl _ _).grown hgrow (Nat.le_refl _) (by simp)
  have HL := Lib.hid hbel; clear hbel
  clear hs ht hn1 hn2 hgrow hown hi0 hz0 hz1 hz2
  go_wp2_with fail
  go_loopw [4] (fun s4 wr => ∃ (k : Nat) (cur : Array Value), k ≤ xs.length ∧ s4 = .int .i64 k ∧ Hid (Below w.heap.size w wr) ∧ Hid (Blk wr w.heap.size 2 cur) ∧ Hid (cur.size = xs.length) ∧ Hid (Filled eInt wr w.heap.size (fun b => w.heap.size ≤ b) cur k xs)) (fun s4 _ => xs.length - (intOf s4).toNat)
  case atStart => exact ⟨0, cur, Nat.zero_le _, rfl, HL, HB, HS, Filled.zero⟩
  case round =>
    clear HB HS HL
    obtain ⟨k, cur, hk, rfl, HL, HB, HS, HF⟩ := hrel
    by_cases hlt : k < xs.length
    · have hltz : (k : Int) < (xs.length : Int) := by omega
      obtain ⟨b, off, es, rfl, hb, hR, hc⟩ := H.out.at1 rfl hlt
      have HX : Hid (xs[k]? = some xs[k]) := List.getElem?_eq_getElem hlt
      obtain ⟨rfl, gq⟩ := hR
      have d0 : wr.cell? ⟨b, off + k, none⟩ = some (.int .i64 xs[k]) := (below_olds HL.out _ hb).trans (hc _ rfl)
      have HR := Lib.hid gq
      clear hc gq
      try clear hR
      obtain ⟨v0, hv0⟩ : ∃ v, cur[k]? = some v := get_some (by have := HS.out; omega)
      have HV0 := Lib.hid hv0; clear hv0
      generalize xs[k] = y at d0 HX HR
      have e0 : wr.cell? ⟨w.heap.size, k, none⟩ = some v0 := (HB.out.cell _).trans HV0.out
      have f0 := HB.out.frozen (k)
      go_wp2
      go_roundw
      case rel =>
        exact ⟨k + 1, setAll cur k [_], by omega, by go_num, HL.out.setCell (Nat.le_refl _) _, HB.out.set _ _, (size_setAll _ _ _).trans HS.out, by
          have := (HF.out.set k (.int .i64 y)).step (w' := wr.setCell ⟨w.heap.size, k, none⟩ (.int .i64 y)) (T0 := fun _ => False) (es := [.int .i64 y]) (fun _ _ _ => rfl) (Nat.le_refl _) HX.out ⟨rfl, HR.out⟩ (fun _ h => h.elim) (by have := HS.out; show (k + 1) * 1 ≤ _; omega)
          rw [show k * eInt.size = k from Nat.mul_one k] at this
          exact this⟩
      case measure => simp [intOf]; omega
    · have hltz : ¬ (k : Int) < (xs.length : Int) := by omega
      obtain rfl : k = xs.length := by omega
      go_wp2
      go_ret
      exact ⟨_, _, rfl, HF.out.soFr HB.out (Nat.le_refl _) (by unfold maxLen; omega), HL.out⟩

theorem info_impl_MultiRule : (Try.prog.info? 104).map (fun i => (i.zero, i.size, i.bytes)) = some (some (.agg #[.int .i64 0, .slice none 0 0, .slice none 0 0, .slice none 0 0, .int .i64 0]), 5, 88) := by kernel_rfl

end Go.Proofs.Ythfihlfjphiihaa
