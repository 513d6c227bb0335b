/- What the proof of FnExactIsNormalWord needs: contracts of the functions that it reaches, each once. -/
import Derived.Test.YtfcajgbehecfbaaProg
import Derived.Test.YtfcajgbehecfbaaQMem
import Derived.Test.YtfcajgbehecfbaaQOpen
import Derived.WalkKit
import Derived.WalkSpells
import Derived.Below
import Derived.LoopTactic
import Derived.Outline
import Derived.Deep.QuietTactic
import Derived.BigQuiet
import Derived.Deep.LoopGhost
import Derived.Handy
import Derived.Lib.Hide
import Derived.Shelf.Abstract
import Derived.StillTailTactics
import Derived.OwnWalk
import Derived.Maps.AppendAt
import Derived.RegionTactic
import Derived.Deep.RegionHeld3
import Derived.IntWalk
import Derived.Deep.Upon
import Derived.Laws.OwnMore
import Derived.Maps.AppendAt
import Derived.Lib.SliceRun
import Derived.Lib.AppendZeros
namespace Go.Proofs.Ytfcajgbehecfbaa
open Go.RowKit

/-- w' is w behind some draws. -/
def Dr (w w' : World) : Prop := ∃ m, w' = w.drewN m

theorem Dr.refl (w : World) : Dr w w := ⟨0, rfl⟩

theorem Dr.drewN {w w' : World} (h : Dr w w') (n : Nat) : Dr w (w'.drewN n) := by
  obtain ⟨m, rfl⟩ := h; exact ⟨m + n, World.drewN_drewN _ _ _⟩

theorem Dr.drew {w w' : World} (h : Dr w w') : Dr w w'.drew := h.drewN 1

theorem Dr.trans {a b c : World} (h : Dr a b) (k : Dr b c) : Dr a c := by
  obtain ⟨m, rfl⟩ := h; obtain ⟨n, rfl⟩ := k; exact ⟨m + n, World.drewN_drewN _ _ _⟩

theorem Dr.cell {w w' : World} (h : Dr w w') (p : Addr) : w'.cell? p = w.cell? p := by obtain ⟨m, rfl⟩ := h; rfl

theorem Dr.size {w w' : World} (h : Dr w w') : w'.heap.size = w.heap.size := by obtain ⟨m, rfl⟩ := h; rfl

theorem Dr.below {w w' : World} (h : Dr w w') : Below w.heap.size w w' := by obtain ⟨m, rfl⟩ := h; exact below_drewN (Below.refl _ _) m

theorem Dr.quiet {P : Program} {f : FuncId} {args : Array Value} {w : World} {n : Nat} {v : Value} (h : Calls P f args (w.drewN n) fun e w' => e = .returned v ∧ Dr (w.drewN n) w') : Calls P f args (w.drewN n) fun e w'' => e = .returned v ∧ ∃ m, w'' = w.drewN m :=
  Calls.quiet_of (h.mono fun _ _ ⟨he, hd⟩ => ⟨he, hd⟩)

theorem Dr.quiet0 {P : Program} {f : FuncId} {args : Array Value} {w : World} {n : Nat} {v : Value} (h : Calls P f args (w.drewN n) fun e w' => e = .returned v ∧ w.drewN n = w') : Calls P f args (w.drewN n) fun e w'' => e = .returned v ∧ ∃ m, w'' = w.drewN m :=
  Calls.quiet_of_same (h.mono fun _ _ ⟨he, hd⟩ => ⟨he, hd.symm⟩)

def lk (t : Nat) : List (Nat × Value) → Option Value
  | [] => none
  | (i, v) :: L => bif Nat.beq t i then some v else lk t L

/-- The slots L are known. -/
structure Env (n : Nat) (L : List (Nat × Value)) (a : Act) : Prop where
  defers : a.defers = []
  size : a.tmps.size = n
  get : ∀ t v, lk t L = some v → a.tmps.getD t undef = v

def ev (L : List (Nat × Value)) : Operand → Option Value
  | .tmp t => lk t L
  | .const v => some v
  | .global g => some (.pointer (some ⟨g, 0, none⟩))
  | .func f => some (.func (.func f) #[] #[])

theorem Env.ev {n : Nat} {L : List (Nat × Value)} {a : Act} {x : Operand} {v : Value} (h : Env n L a) (hx : ev L x = some v) : a.eval x = v := by
  cases x with
  | tmp t => exact h.get t v hx
  | const u => simpa [Go.Proofs.Ytfcajgbehecfbaa.ev, Act.eval] using hx
  | global g => simpa [Go.Proofs.Ytfcajgbehecfbaa.ev, Act.eval] using hx
  | func f => simpa [Go.Proofs.Ytfcajgbehecfbaa.ev, Act.eval] using hx

theorem Env.put {n : Nat} {L : List (Nat × Value)} {a : Act} {d : Nat} (h : Env n L a) (hd : Nat.blt d n = true) (v : Value) : Env n ((d, v) :: L) (a.put (some d) v) where
  defers := h.defers
  size := by simpa [Act.put] using h.size
  get := by
    intro t u hu
    have hlt : d < a.tmps.size := by rw [h.size]; exact Nat.blt_eq ▸ hd
    simp only [lk] at hu
    by_cases e : t = d
    · subst e
      simp at hu
      subst hu
      simp [Act.put, Array.getElem?_setIfInBounds_self_of_lt hlt]
    · have e' : Nat.beq t d = false := Bool.eq_false_iff.2 fun h => e (Nat.eq_of_beq_eq_true h)
      rw [e'] at hu
      have := h.get t u hu
      simpa [Act.put, Array.getElem?_setIfInBounds_ne (fun h => e h.symm)] using this

def subE (L : List (Nat × Value)) : List (Nat × Value) → Prop
  | [] => True
  | p :: K => lk p.1 L = some p.2 ∧ subE L K

theorem Env.sub {n : Nat} {L K : List (Nat × Value)} {a : Act} (h : Env n L a) (hs : subE L K) : Env n K a where
  defers := h.defers
  size := h.size
  get := by
    intro t v hv
    refine h.get t v ?_
    clear h
    induction K with
    | nil => cases hv
    | cons p K ih =>
      obtain ⟨i, u⟩ := p
      simp only [lk] at hv
      by_cases e : Nat.beq t i = true
      · rw [e] at hv
        have e' := Nat.eq_of_beq_eq_true e
        simp at hv
        rw [e', hs.1, hv]
      · have e' : Nat.beq t i = false := Bool.eq_false_iff.2 e
        rw [e'] at hv
        exact ih hs.2 hv

theorem Env.sub' {n : Nat} {L K : List (Nat × Value)} {a : Act} (h : Env n L a) (hs : ∀ t v, lk t K = some v → lk t L = some v) : Env n K a := ⟨h.defers, h.size, fun t v hv => h.get t v (hs t v hv)⟩

theorem Env.start {n : Nat} {vs : List Value} {L : List (Nat × Value)} (hL : ∀ t v, lk t L = some v → vs[t]? = some v) (hn : vs.length ≤ n) : Env n L { tmps := vs.toArray ++ Array.replicate (n - vs.toArray.size) undef, defers := [] } where
  defers := rfl
  size := by simp; omega
  get := by
    intro t v hv
    have h1 := hL t v hv
    have h2 := (List.getElem?_eq_some_iff.1 h1).1
    simp only [Array.getD_eq_getD_getElem?, Array.getElem?_append, List.size_toArray, h2, if_true, List.getElem?_toArray, h1, Option.getD_some]

/-- A part of the memory that is held: its blocks, and what is known of them. -/
structure Res where
  S : Nat → Prop
  φ : World → Prop
  loc : ∀ w w' : World, (∀ b, S b → w'.heap[b]? = w.heap[b]?) → φ w → φ w'

/-- Since w0 nothing has changed but blocks of M; the parts rs are held, apart from one another, in M or in new blocks. -/
structure Held (M : Nat → Prop) (w0 : World) (rs : List Res) (w : World) : Prop where
  chg : Chg M w0 w
  ok : ∀ r ∈ rs, r.φ w
  rng : ∀ r ∈ rs, ∀ b, r.S b → (M b ∨ w0.heap.size ≤ b) ∧ b < w.heap.size
  sep : rs.Pairwise fun r s => ∀ b, r.S b → ¬ s.S b

/-- No block. -/
def Nob : Nat → Prop := fun _ => False

def rBlk (g : Nat) (t : TypeId) (cs : List Value) : Res := ⟨fun b => b = g, fun w => Blk w g t cs.toArray, fun _ _ h hb => (h g rfl).trans hb⟩

def rO {α : Type} (E : Enc α) (S : Nat → Prop) (cs : List Value) (x : α) : Res := ⟨S, fun w => E.O w S cs x, fun _ _ h ho => E.okeep ho h⟩

/-- An owned slice. -/
abbrev rSo {α : Type} (E : Enc α) (S : Nat → Prop) (A : Option Addr) (c : Nat) (xs : List α) : Res := rO (eSl E) S [.slice A xs.length c] xs

theorem Held.start (M : Nat → Prop) (w : World) : Held M w [] w := ⟨Chg.refl _ _, (fun _ h => by cases h), (fun _ h => by cases h), List.Pairwise.nil⟩

theorem Held.below {w0 : World} {rs : List Res} {w : World} (h : Held Nob w0 rs w) : Below w0.heap.size w0 w := h.chg.below (Nat.le_refl _) fun _ h => h.elim

theorem Held.size {M : Nat → Prop} {w0 : World} {rs : List Res} {w : World} (h : Held M w0 rs w) : w0.heap.size ≤ w.heap.size := h.chg.size

theorem Held.get {M : Nat → Prop} {w0 : World} {rs : List Res} {w : World} (h : Held M w0 rs w) {i : Nat} {r : Res} (hi : rs[i]? = some r) : r.φ w := h.ok r (List.mem_of_getElem? hi)

theorem Held.drew {M : Nat → Prop} {w0 : World} {rs : List Res} {w : World} (h : Held M w0 rs w) : Held M w0 rs w.drew := ⟨h.chg.drew, fun r hr => r.loc w _ (fun _ _ => rfl) (h.ok r hr), h.rng, h.sep⟩

theorem Held.on {M : Nat → Prop} {w0 : World} {rs : List Res} {w w' : World} (h : Held M w0 rs w) (hb : Below w.heap.size w w') : Held M w0 rs w' where
  chg := h.chg.trans (.of_below hb)
  ok := fun r hr => r.loc _ _ (fun b hS => hb.block b (h.rng r hr b hS).2) (h.ok r hr)
  rng := fun r hr b hS => ⟨(h.rng r hr b hS).1, Nat.lt_of_lt_of_le (h.rng r hr b hS).2 hb.size⟩
  sep := h.sep

/-- A call has made r. -/
theorem Held.new {M : Nat → Prop} {w0 : World} {rs : List Res} {w w' : World} (h : Held M w0 rs w) (hb : Below w.heap.size w w') (r : Res) (hr : r.φ w') (hS : ∀ b, r.S b → w.heap.size ≤ b ∧ b < w'.heap.size) : Held M w0 (r :: rs) w' where
  chg := (h.on hb).chg
  ok := by
    intro s hs
    rcases List.mem_cons.1 hs with rfl | hs
    · exact hr
    · exact (h.on hb).ok s hs
  rng := by
    intro s hs
    rcases List.mem_cons.1 hs with rfl | hs
    · exact fun b hb' => ⟨.inr (Nat.le_trans h.size (hS b hb').1), (hS b hb').2⟩
    · exact (h.on hb).rng s hs
  sep := List.pairwise_cons.2 ⟨fun s hs b hb1 hb2 => by have h1 := (hS b hb1).1; have h2 := (h.rng s hs b hb2).2; omega, h.sep⟩

theorem Held.newO {M : Nat → Prop} {w0 : World} {rs : List Res} {w w' : World} {α : Type} {E : Enc α} {cs : List Value} {x : α} (h : Held M w0 rs w) (hb : Below w.heap.size w w') (ho : E.O w' (Fr w w') cs x) : ∃ S, Held M w0 (rO E S cs x :: rs) w' :=
  ⟨Fr w w', h.new hb (rO E (Fr w w') cs x) ho fun _ h => h⟩

theorem Held.newS {M : Nat → Prop} {w0 : World} {rs : List Res} {w w' : World} {α : Type} {E : Enc α} {A : Option Addr} {c : Nat} {xs : List α} (h : Held M w0 rs w) (hb : Below w.heap.size w w') (ho : So E w' (Fr w w') A c xs) : ∃ S, Held M w0 (rSo E S A c xs :: rs) w' := h.newO hb (oSl ho)

theorem Held.alloc {M : Nat → Prop} {w0 : World} {rs : List Res} {w : World} (h : Held M w0 rs w) (t : TypeId) (cs : List Value) : Held M w0 (rBlk w.heap.size t cs :: rs) (w.alloc (.cells cs.toArray t)) :=
  h.new ((Below.refl _ _).alloc (Nat.le_refl _) _) (rBlk w.heap.size t cs) (Blk.new w t cs.toArray) fun b (hb : b = _) => by subst hb; simp

def pick (rs : List Res) : List Nat → Option (List Res)
  | [] => some []
  | i :: is => match rs[i]?, pick rs is with
    | some r, some q => some (r :: q)
    | _, _ => none

theorem pick_get {rs rs' : List Res} {is : List Nat} (h : pick rs is = some rs') : ∀ (k : Nat) (r : Res), rs'[k]? = some r → ∃ i, is[k]? = some i ∧ rs[i]? = some r := by
  induction is generalizing rs' with
  | nil => simp [pick] at h; subst h; intro k r hr; simp at hr
  | cons i is ih =>
    simp only [pick] at h
    cases hi : rs[i]? with
    | none => simp [hi] at h
    | some r0 =>
      cases hm : pick rs is with
      | none => simp [hi, hm] at h
      | some rs2 =>
        simp [hi, hm] at h
        subst h
        intro k r hr
        rcases k with _ | k
        · simp at hr; subst hr; exact ⟨i, rfl, hi⟩
        · simp at hr; exact ih hm k r hr

theorem sep_at {rs : List Res} (h : rs.Pairwise fun r s => ∀ b, r.S b → ¬ s.S b) {i j : Nat} {r s : Res} (hi : rs[i]? = some r) (hj : rs[j]? = some s) (hij : i ≠ j) : ∀ b, r.S b → ¬ s.S b := by
  obtain ⟨li, rfl⟩ := List.getElem?_eq_some_iff.1 hi
  obtain ⟨lj, rfl⟩ := List.getElem?_eq_some_iff.1 hj
  rw [List.pairwise_iff_getElem] at h
  rcases Nat.lt_or_gt_of_ne hij with hlt | hlt
  · exact h i j li lj hlt
  · exact fun b h1 h2 => h j i lj li hlt b h2 h1

/-- Some of the parts, in another order. -/
theorem Held.sel {M : Nat → Prop} {w0 : World} {rs : List Res} {w : World} (h : Held M w0 rs w) (is : List Nat) {rs' : List Res} (hn : is.Nodup) (hs : pick rs is = some rs') : Held M w0 rs' w where
  chg := h.chg
  ok := by
    intro r hr
    obtain ⟨k, hk⟩ := List.mem_iff_getElem?.1 hr
    obtain ⟨i, _, hi⟩ := pick_get hs k r hk
    exact h.get hi
  rng := by
    intro r hr
    obtain ⟨k, hk⟩ := List.mem_iff_getElem?.1 hr
    obtain ⟨i, _, hi⟩ := pick_get hs k r hk
    exact h.rng r (List.mem_of_getElem? hi)
  sep := by
    rw [List.pairwise_iff_getElem]
    intro k l lk ll hkl
    obtain ⟨i, h1, hi⟩ := pick_get hs k _ (List.getElem?_eq_getElem lk)
    obtain ⟨j, h2, hj⟩ := pick_get hs l _ (List.getElem?_eq_getElem ll)
    refine sep_at h.sep hi hj ?_
    rintro rfl
    obtain ⟨l1, e1⟩ := List.getElem?_eq_some_iff.1 h1
    obtain ⟨l2, e2⟩ := List.getElem?_eq_some_iff.1 h2
    have := List.pairwise_iff_getElem.1 hn k l l1 l2 hkl
    exact this (e1.trans e2.symm)

/-- What was there at the start, outside M, reads so still. -/
theorem Held.cell0 {M : Nat → Prop} {w0 : World} {rs : List Res} {w : World} (h : Held M w0 rs w) {p : Addr} (hp : p.block < w0.heap.size) (hM : ¬ M p.block) : w.cell? p = w0.cell? p := World.cell?_of_block (w := w0) (h.chg.block p.block hp hM)

theorem Held.old {w0 : World} {rs : List Res} {w : World} {α : Type} {E : Enc α} {A : Option Addr} {c : Nat} {xs : List α} (h : Held Nob w0 rs w) (hs : Sl E w0 (Old w0) A c xs) : Sl E w (Old w) A c xs := hs.on h.below

theorem Held.oldR {w0 : World} {rs : List Res} {w : World} {α : Type} {E : Enc α} {cs : List Value} {x : α} (h : Held Nob w0 rs w) (hs : E.R w0 (Old w0) cs x) : E.R w (Old w) cs x := E.on hs h.below

theorem Held.rd {M : Nat → Prop} {w0 : World} {rs : List Res} {w : World} {α : Type} {E : Enc α} {S : Nat → Prop} {cs : List Value} {x : α} (h : Held M w0 rs w) {i : Nat} (hi : rs[i]? = some (rO E S cs x)) : E.R w (Old w) cs x :=
  E.more (E.read (h.get hi)) fun b hb => (h.rng _ (List.mem_of_getElem? hi) b hb).2

theorem so_of_o {α : Type} {E : Enc α} {w : World} {S : Nat → Prop} {A : Option Addr} {c : Nat} {xs : List α} (h : (eSl E).O w S [.slice A xs.length c] xs) : So E w S A c xs := by
  obtain ⟨A', c', he, hs⟩ := h
  simp only [List.cons.injEq, Value.slice.injEq, and_true, true_and] at he
  obtain ⟨rfl, rfl⟩ := he
  exact hs

theorem sl_of_r {α : Type} {E : Enc α} {w : World} {S : Nat → Prop} {A : Option Addr} {c : Nat} {xs : List α} (h : (eSl E).R w S [.slice A xs.length c] xs) : Sl E w S A c xs := by
  obtain ⟨A', c', he, hs⟩ := h
  simp only [List.cons.injEq, Value.slice.injEq, and_true, true_and] at he
  obtain ⟨rfl, rfl⟩ := he
  exact hs

theorem Held.sl {M : Nat → Prop} {w0 : World} {rs : List Res} {w : World} {α : Type} {E : Enc α} {S : Nat → Prop} {A : Option Addr} {c : Nat} {xs : List α} (h : Held M w0 rs w) {i : Nat} (hi : rs[i]? = some (rSo E S A c xs)) : Sl E w (Old w) A c xs := sl_of_r (h.rd hi)

theorem Held.so {w0 : World} {rs : List Res} {w : World} {α : Type} {E : Enc α} {S : Nat → Prop} {A : Option Addr} {c : Nat} {xs : List α} (h : Held Nob w0 rs w) {i : Nat} (hi : rs[i]? = some (rSo E S A c xs)) : So E w (Fr w0 w) A c xs :=
  (so_of_o (h.get hi)).more fun b hb => by
    have h1 := h.rng _ (List.mem_of_getElem? hi) b hb
    exact ⟨h1.1.resolve_left fun h => h.elim, h1.2⟩

theorem Held.o {w0 : World} {rs : List Res} {w : World} {α : Type} {E : Enc α} {S : Nat → Prop} {cs : List Value} {x : α} (h : Held Nob w0 rs w) {i : Nat} (hi : rs[i]? = some (rO E S cs x)) : E.O w (Fr w0 w) cs x :=
  E.omore (h.get hi) fun b hb => by
    have h1 := h.rng _ (List.mem_of_getElem? hi) b hb
    exact ⟨h1.1.resolve_left fun h => h.elim, h1.2⟩

/-- Part i is rewritten: only its blocks have changed, and new ones have come. -/
theorem Held.mut {M : Nat → Prop} {w0 : World} {rs : List Res} {w w' : World} (h : Held M w0 rs w) {i : Nat} {r : Res} (hi : rs[i]? = some r) (hc : Chg r.S w w') (r' : Res) (hr : r'.φ w') (hS : ∀ b, r'.S b → r.S b ∨ (w.heap.size ≤ b ∧ b < w'.heap.size)) : Held M w0 (rs.set i r') w' where
  chg := by
    refine ⟨hc.os.trans h.chg.os, hc.tape.trans h.chg.tape, hc.output.trans h.chg.output, Nat.le_trans h.chg.size hc.size, fun k hk hM => ?_⟩
    refine (hc.block k (Nat.lt_of_lt_of_le hk h.chg.size) fun hS' => ?_).trans (h.chg.block k hk hM)
    rcases (h.rng r (List.mem_of_getElem? hi) k hS').1 with h1 | h1
    · exact hM h1
    · omega
  ok := by
    intro s hs
    obtain ⟨j, hj⟩ := List.mem_iff_getElem?.1 hs
    by_cases e : i = j
    · subst e
      rw [List.getElem?_set_self (List.getElem?_eq_some_iff.1 hi).1] at hj
      simp at hj; subst hj; exact hr
    · rw [List.getElem?_set_ne e] at hj
      refine s.loc _ _ (fun b hb => hc.block b (h.rng s (List.mem_of_getElem? hj) b hb).2 fun hb' => sep_at h.sep hi hj e b hb' hb) (h.get hj)
  rng := by
    intro s hs b hb
    obtain ⟨j, hj⟩ := List.mem_iff_getElem?.1 hs
    by_cases e : i = j
    · subst e
      rw [List.getElem?_set_self (List.getElem?_eq_some_iff.1 hi).1] at hj
      simp at hj; subst hj
      rcases hS b hb with h1 | h1
      · have h2 := h.rng r (List.mem_of_getElem? hi) b h1
        exact ⟨h2.1, Nat.lt_of_lt_of_le h2.2 hc.size⟩
      · exact ⟨.inr (Nat.le_trans h.size h1.1), h1.2⟩
    · rw [List.getElem?_set_ne e] at hj
      have h2 := h.rng s (List.mem_of_getElem? hj) b hb
      exact ⟨h2.1, Nat.lt_of_lt_of_le h2.2 hc.size⟩
  sep := by
    have key : ∀ (j : Nat) (s : Res), i ≠ j → rs[j]? = some s → ∀ b, r'.S b → ¬ s.S b := by
      intro j s e hj b hb hb'
      rcases hS b hb with h1 | h1
      · exact sep_at h.sep hi hj e b h1 hb'
      · have := (h.rng s (List.mem_of_getElem? hj) b hb').2; omega
    rw [List.pairwise_iff_getElem]
    intro k l lk ll hkl b hb hb'
    have lk' : k < rs.length := by simpa using lk
    have ll' : l < rs.length := by simpa using ll
    by_cases e1 : i = k
    · subst e1
      rw [List.getElem_set_self] at hb
      rw [List.getElem_set_ne (by omega)] at hb'
      exact key l _ (by omega) (List.getElem?_eq_getElem ll') b hb hb'
    · by_cases e2 : i = l
      · subst e2
        rw [List.getElem_set_self] at hb'
        rw [List.getElem_set_ne (by omega)] at hb
        exact key k _ e1 (List.getElem?_eq_getElem lk') b hb' hb
      · rw [List.getElem_set_ne e1] at hb
        rw [List.getElem_set_ne e2] at hb'
        exact List.pairwise_iff_getElem.1 h.sep k l lk' ll' hkl b hb hb'

theorem Held.set {M : Nat → Prop} {w0 : World} {rs : List Res} {w : World} (h : Held M w0 rs w) {i : Nat} {g : Nat} {t : TypeId} {cs : List Value} (hi : rs[i]? = some (rBlk g t cs)) (o : Nat) (v : Value) : Held M w0 (rs.set i (rBlk g t (cs.set o v))) (w.setCell ⟨g, o, none⟩ v) := by
  refine h.mut hi ((Chg.refl _ _).set (by exact rfl) _) (rBlk g t (cs.set o v)) ?_ fun b hb => .inl hb
  have := Blk.set (h.get hi) o v
  have e : cs.toArray.setIfInBounds o v = (cs.set o v).toArray := by simp
  rw [e] at this
  exact this

/-- Two parts become one. -/
theorem Held.join {M : Nat → Prop} {w0 : World} {r s : Res} {rs : List Res} {w : World} (h : Held M w0 (r :: s :: rs) w) (q : Res) (hq : r.φ w → s.φ w → (∀ b, r.S b → ¬ s.S b) → q.φ w) (hS : ∀ b, q.S b → r.S b ∨ s.S b) : Held M w0 (q :: rs) w where
  chg := h.chg
  ok := by
    intro x hx
    rcases List.mem_cons.1 hx with rfl | hx
    · exact hq (h.ok r (by simp)) (h.ok s (by simp)) ((List.pairwise_cons.1 h.sep).1 s (by simp))
    · exact h.ok x (by simp [hx])
  rng := by
    intro x hx b hb
    rcases List.mem_cons.1 hx with rfl | hx
    · rcases hS b hb with h1 | h1
      · exact h.rng r (by simp) b h1
      · exact h.rng s (by simp) b h1
    · exact h.rng x (by simp [hx]) b hb
  sep := by
    have h1 := List.pairwise_cons.1 h.sep
    have h2 := List.pairwise_cons.1 h1.2
    refine List.pairwise_cons.2 ⟨fun x hx b hb hb' => ?_, h2.2⟩
    rcases hS b hb with h3 | h3
    · exact h1.1 x (by simp [hx]) b h3 hb'
    · exact h2.1 x hx b h3 hb'

/-- One part turned into another over the same blocks. -/
theorem Held.turn {M : Nat → Prop} {w0 : World} {r : Res} {rs : List Res} {w : World} (h : Held M w0 (r :: rs) w) (q : Res) (hq : r.φ w → q.φ w) (hS : ∀ b, q.S b → r.S b) : Held M w0 (q :: rs) w where
  chg := h.chg
  ok := by
    intro x hx
    rcases List.mem_cons.1 hx with rfl | hx
    · exact hq (h.ok r (by simp))
    · exact h.ok x (by simp [hx])
  rng := by
    intro x hx b hb
    rcases List.mem_cons.1 hx with rfl | hx
    · exact h.rng r (by simp) b (hS b hb)
    · exact h.rng x (by simp [hx]) b hb
  sep := by
    have h1 := List.pairwise_cons.1 h.sep
    exact List.pairwise_cons.2 ⟨fun x hx b hb hb' => h1.1 x hx b (hS b hb) hb', h1.2⟩

theorem Held.pair {M : Nat → Prop} {w0 : World} {rs : List Res} {w : World} {α β : Type} {E : Enc α} {F : Enc β} {S1 S2 : Nat → Prop} {c1 c2 : List Value} {x : α} {y : β} (h : Held M w0 (rO E S1 c1 x :: rO F S2 c2 y :: rs) w) : Held M w0 (rO (ePr E F) (fun b => S1 b ∨ S2 b) (c1 ++ c2) (x, y) :: rs) w :=
  h.join _ (fun h1 h2 hd => ⟨c1, c2, S1, S2, rfl, fun b hb => ⟨.inl hb, hd b hb⟩, fun b hb => .inr hb, h1, h2⟩) fun _ hb => hb

/-- A flat part in front. -/
theorem Held.pairF {M : Nat → Prop} {w0 : World} {rs : List Res} {w : World} {α β : Type} {E : Enc α} {F : Enc β} {S : Nat → Prop} {c1 c2 : List Value} {x : α} {y : β} (h : Held M w0 (rO F S c2 y :: rs) w) (hx : E.O w Nob c1 x) : Held M w0 (rO (ePr E F) S (c1 ++ c2) (x, y) :: rs) w :=
  h.turn _ (fun h2 => ⟨c1, c2, Nob, S, rfl, fun b hb => hb.elim, fun b hb => hb, hx, h2⟩) fun _ hb => hb

/-- A flat part behind. -/
theorem Held.pairB {M : Nat → Prop} {w0 : World} {rs : List Res} {w : World} {α β : Type} {E : Enc α} {F : Enc β} {S : Nat → Prop} {c1 c2 : List Value} {x : α} {y : β} (h : Held M w0 (rO E S c1 x :: rs) w) (hy : F.O w Nob c2 y) : Held M w0 (rO (ePr E F) S (c1 ++ c2) (x, y) :: rs) w :=
  h.turn _ (fun h2 => ⟨c1, c2, S, Nob, rfl, fun b hb => ⟨hb, fun h => h⟩, fun b hb => hb.elim, h2, hy⟩) fun _ hb => hb

/-- In every world that meets S, operation o yields v and does nothing else. -/
def XS (P : Program) (S : World → Prop) (L : List (Nat × Value)) (o : Oper) (v : Value) : Prop :=
  ∀ (n : Nat) (a : Act) (w : World), Env n L a → S w → (execOp a.eval o).run P w = .ok (.value v) w

abbrev Stp (P : Program) (ops : Array Oper) (Q : Exit → Act → World → Prop) (o : Oper) (a : Act) (w : World) (K : Act → World → Prop) : Prop :=
  if Region.wanted o (yielded ops a.tmps) = true then Oper.wp P o a w K Q else K (a.put o.dst undef) w

theorem wt0 {o : Oper} {ops : Array Oper} {a : Act} (hg : o.guard = none) : Region.wanted o (yielded ops a.tmps) = true := by simp [Region.wanted, hg]

theorem yielded_at {n : Nat} {L : List (Nat × Value)} {a : Act} {ops : Array Oper} {g t : Nat} {b : Bool} (hE : Env n L a) (ht : (ops[g]?).bind (·.dst) = some t) (hl : lk t L = some (.bool b)) : yielded ops a.tmps g = some b := by
  have h := hE.get t _ hl
  have hsz : a.tmps[t]? = some (.bool b) := by
    rw [Array.getD_eq_getD_getElem?] at h
    cases h' : a.tmps[t]? with
    | none => rw [h'] at h; simp [undef] at h
    | some v => rw [h'] at h; simp at h; rw [h]
  simp [yielded, ht, hsz]

theorem wtT {n : Nat} {L : List (Nat × Value)} {a : Act} {o : Oper} {ops : Array Oper} {g t : Nat} {b want : Bool} (hE : Env n L a) (hg : o.guard = some (g, want)) (ht : (ops[g]?).bind (·.dst) = some t) (hl : lk t L = some (.bool b)) (hb : b = want) : Region.wanted o (yielded ops a.tmps) = true := by
  simp [Region.wanted, hg, yielded_at hE ht hl, hb]

theorem wtF {n : Nat} {L : List (Nat × Value)} {a : Act} {o : Oper} {ops : Array Oper} {g t : Nat} {b want : Bool} (hE : Env n L a) (hg : o.guard = some (g, want)) (ht : (ops[g]?).bind (·.dst) = some t) (hl : lk t L = some (.bool b)) (hb : b = !want) : Region.wanted o (yielded ops a.tmps) = false := by
  subst hb; cases want <;> simp [Region.wanted, hg, yielded_at hE ht hl]

theorem st_val {P : Program} {ops : Array Oper} {Q : Exit → Act → World → Prop} {o : Oper} {a : Act} {w w' : World} {K : Act → World → Prop} {n d : Nat} {L : List (Nat × Value)} {v : Value} (hE : Env n L a) (hw : Region.wanted o (yielded ops a.tmps) = true) (hr : (execOp a.eval o).run P w = .ok (.value v) w') (hd : o.dst = some d) (hn : Nat.blt d n = true)
    (k : ∀ a', Env n ((d, v) :: L) a' → K a' w') : Stp P ops Q o a w K := by
  unfold Stp; rw [if_pos hw]; unfold Oper.wp; rw [hr]; simp only [Oper.upon]; rw [hd]; exact k _ (hE.put hn v)

theorem st_x {P : Program} {S : World → Prop} {ops : Array Oper} {Q : Exit → Act → World → Prop} {o : Oper} {a : Act} {w : World} {K : Act → World → Prop} {n d : Nat} {L : List (Nat × Value)} {v : Value} (hE : Env n L a) (hS : S w) (hw : Region.wanted o (yielded ops a.tmps) = true) (hx : XS P S L o v) (hd : o.dst = some d) (hn : Nat.blt d n = true)
    (k : ∀ a', Env n ((d, v) :: L) a' → K a' w) : Stp P ops Q o a w K := st_val hE hw (hx _ _ _ hE hS) hd hn k

theorem st_no {P : Program} {ops : Array Oper} {Q : Exit → Act → World → Prop} {o : Oper} {a : Act} {w : World} {K : Act → World → Prop} {n d : Nat} {L : List (Nat × Value)} (hE : Env n L a) (hw : Region.wanted o (yielded ops a.tmps) = false) (hd : o.dst = some d) (hn : Nat.blt d n = true)
    (k : ∀ a', Env n ((d, undef) :: L) a' → K a' w) : Stp P ops Q o a w K := by
  unfold Stp; rw [if_neg (by rw [hw]; simp), hd]; exact k _ (hE.put hn _)

def evs (L : List (Nat × Value)) : List Operand → Option (List Value)
  | [] => some []
  | x :: xs => match ev L x, evs L xs with
    | some v, some vs => some (v :: vs)
    | _, _ => none

theorem evs_map {n : Nat} {L : List (Nat × Value)} {a : Act} (hE : Env n L a) : ∀ (xs : List Operand) (vs : List Value), evs L xs = some vs → xs.map a.eval = vs
  | [], vs, h => by simp [evs] at h; subst h; rfl
  | x :: xs, vs, h => by
    simp only [evs] at h
    cases h1 : ev L x with
    | none => simp [h1] at h
    | some v =>
      cases h2 : evs L xs with
      | none => simp [h1, h2] at h
      | some us =>
        simp [h1, h2] at h
        subst h
        rw [List.map_cons, hE.ev h1, evs_map hE xs us h2]

/-- A call of a Go function by its contract. -/
theorem st_call {P : Program} {ops : Array Oper} {Q : Exit → Act → World → Prop} {o : Oper} {a : Act} {w : World} {K : Act → World → Prop} {n d F : Nat} {L : List (Nat × Value)} {f : Operand} {xs : List Operand} {ts : Array TypeId} {vs : List Value} {R : Ending → World → Prop}
    (hE : Env n L a) (hw : Region.wanted o (yielded ops a.tmps) = true) (ho : o.op = .call { callee := .value f, args := xs.toArray, argTypes := ts }) (hf : ev L f = some (.func (.func F) #[] #[])) (hx : evs L xs = some vs)
    (hen : ∀ args w, (callFunc F args).run P w = .ok (.enter F args) w) (hd : o.dst = some d) (hn : Nat.blt d n = true) (hc : Calls P F vs.toArray w R)
    (k : ∀ e w', R e w' → ∃ v, e = .returned v ∧ ∀ a', Env n ((d, v) :: L) a' → K a' w') : Stp P ops Q o a w K := by
  unfold Stp; rw [if_pos hw]; unfold Oper.wp
  have hr : (execOp a.eval o).run P w = .ok (.enter F vs.toArray) w := by
    unfold execOp
    simp only [ho, resolve, hE.ev hf, Deferred.ofValue, Sem.run_bind, Sem.run_pure, Result.andThen_ok, invoke, List.map_toArray, evs_map hE xs vs hx]
    simpa using hen vs.toArray w
  rw [hr]; simp only [Oper.upon]; rw [hd]
  refine hc.mono fun e w' hR => ?_
  obtain ⟨v, rfl, h⟩ := k e w' hR
  exact h _ (hE.put hn v)

theorem rg {P : Program} {Q : Exit → Act → World → Prop} {a : Act} {w : World} {id : Nat} {l : List Oper} (h : wpList P l.toArray Q l a w) : (Code.region id l.toArray false).wp P Q a w := wp_region_lit h

theorem blk_hit {Q : Exit → Act → World → Prop} {a : Act} {w : World} {id : Nat} (h : Q .normal a w) : Exit.inBlock id Q (.exit id) a w := by simpa [Exit.inBlock] using h

theorem lp {P : Program} {Q : Exit → Act → World → Prop} {a : Act} {w : World} {c : Code} (I : Nat → Act → World → Prop) (m : Nat) (h0 : I m a w)
    (round : ∀ m a w, I m a w → c.wp P (Exit.then (fun a' w' => ∃ m', m' < m ∧ I m' a' w') Q) a w) : (Code.loop c).wp P Q a w := wp_loop_ghost I m h0 round

def argL : Nat → List Value → List (Nat × Value)
  | _, [] => []
  | i, v :: vs => (i, v) :: argL (i + 1) vs

theorem lk_argL : ∀ (vs : List Value) (i t : Nat) (v : Value), lk t (argL i vs) = some v → i ≤ t ∧ vs[t - i]? = some v
  | [], _, _, _, h => by cases h
  | u :: vs, i, t, v, h => by
    simp only [argL, lk] at h
    by_cases e : Nat.beq t i = true
    · have e' := Nat.eq_of_beq_eq_true e
      subst e'
      simp at h; subst h
      exact ⟨Nat.le_refl _, by simp⟩
    · have e' : Nat.beq t i = false := Bool.eq_false_iff.2 e
      rw [e'] at h
      obtain ⟨h1, h2⟩ := lk_argL vs (i + 1) t v h
      refine ⟨by omega, ?_⟩
      rw [show t - i = (t - (i + 1)) + 1 from by omega, List.getElem?_cons_succ]; exact h2

theorem enter {P : Program} {f : FuncId} {fn : Func} {c : Code} {vs : List Value} {w : World} {R : Ending → World → Prop} {n : Nat} (hf : P.funcs[f]? = some fn) (hb : fn.body = some c) (hn : fn.ntmps = n) (hl : Nat.ble vs.length n = true)
    (k : ∀ a, Env n (argL 0 vs) a → c.wp P (bodyPost P fn R) a w) : Calls P f vs.toArray w R := by
  refine calls_of_wp hf hb (k _ ?_)
  rw [hn]
  refine Env.start (fun t v h => ?_) (Nat.le_of_ble_eq_true hl)
  have := (lk_argL vs 0 t v h).2
  simpa using this

def resSem (tmps : Array Value) : ResultVar → Sem Value
  | .tmp t => pure (tmps.getD t undef)
  | .cell a t => do loadVar t (← asAddr (tmps.getD a undef))

theorem results_eq (fn : Func) (tmps : Array Value) : results fn tmps = (do let vs ← fn.results.mapM (resSem tmps); pure (if h : vs.size = 1 then vs[0] else .tuple vs)) := by
  unfold results
  have : (fun r => match r with | ResultVar.tmp t => (pure (tmps.getD t undef) : Sem Value) | ResultVar.cell a t => do loadVar t (← asAddr (tmps.getD a undef))) = resSem tmps := by
    funext r; cases r <;> rfl
  rw [← this]; rfl

/-- What one result is. -/
def RV (P : Program) (w : World) (L : List (Nat × Value)) (r : ResultVar) (v : Value) : Prop :=
  ∀ (n : Nat) (a : Act), Env n L a → (resSem a.tmps r).run P w = .ok v w

theorem rv_tmp {P : Program} {w : World} {L : List (Nat × Value)} {t : Nat} {v : Value} (h : lk t L = some v) : RV P w L (.tmp t) v := fun _ _ hE => by
  show (Sem.pure _).run P w = _
  rw [hE.get t v h]; rfl

theorem ret1 {P : Program} {fn : Func} {R : Ending → World → Prop} {a : Act} {w : World} {n : Nat} {L : List (Nat × Value)} {r1 : ResultVar} {v1 : Value} (hE : Env n L a) (hr : fn.results = #[r1]) (h1 : RV P w L r1 v1) (hR : R (.returned v1) w) : bodyPost P fn R .ret a w := by
  refine ⟨hE.defers, v1, ?_, hR⟩
  rw [results_eq, hr]
  have h1 := h1 n a hE
  generalize resSem a.tmps = F at *
  simp [h1]

theorem nrm {next : Act → World → Prop} {Q : Exit → Act → World → Prop} {a : Act} {w : World} (h : next a w) : Exit.then next Q .normal a w := h

theorem thn_ret {next : Act → World → Prop} {Q : Exit → Act → World → Prop} {a : Act} {w : World} (h : Q .ret a w) : Exit.then next Q .ret a w := h

theorem thn_exit {next : Act → World → Prop} {Q : Exit → Act → World → Prop} {a : Act} {w : World} {id : Nat} (h : Q (.exit id) a w) : Exit.then next Q (.exit id) a w := h

theorem blk_n {Q : Exit → Act → World → Prop} {a : Act} {w : World} {id : Nat} (h : Q .normal a w) : Exit.inBlock id Q .normal a w := h

theorem blk_ret {Q : Exit → Act → World → Prop} {a : Act} {w : World} {id : Nat} (h : Q .ret a w) : Exit.inBlock id Q .ret a w := h

theorem cnd_b {P : Program} {Q : Exit → Act → World → Prop} {a : Act} {w : World} {c : Operand} {x y : Code} {t : Bool} {n : Nat} {L : List (Nat × Value)} (hE : Env n L a) (hc : ev L c = some (.bool t)) (ht : t = true → x.wp P Q a w) (hf : t = false → y.wp P Q a w) : (Code.cond c x y).wp P Q a w := wp_cond_split (hE.ev hc) ht hf

theorem cnd_d {P : Program} {Q : Exit → Act → World → Prop} {a : Act} {w : World} {c : Operand} {x y : Code} {p : Prop} [Decidable p] {n : Nat} {L : List (Nat × Value)} (hE : Env n L a) (hc : ev L c = some (.bool (decide p))) (ht : p → x.wp P Q a w) (hf : ¬ p → y.wp P Q a w) : (Code.cond c x y).wp P Q a w := wp_cond_split (hE.ev hc) (fun h => ht (of_decide_eq_true h)) (fun h => hf (of_decide_eq_false h))

theorem pl {P : Program} {ops : Array Oper} {Q : Exit → Act → World → Prop} {o : Oper} {rest : List Oper} {a : Act} {w : World} (h : ∀ K : Act → World → Prop, (∀ a w, wpList P ops Q rest a w → K a w) → Stp P ops Q o a w K) : wpList P ops Q (o :: rest) a w := wpList_step h

theorem pl_x {P : Program} {S : World → Prop} {ops : Array Oper} {Q : Exit → Act → World → Prop} {o : Oper} {rest : List Oper} {a : Act} {w : World} {n d : Nat} {L : List (Nat × Value)} {v : Value} (hE : Env n L a) (hS : S w) (hw : Region.wanted o (yielded ops a.tmps) = true) (hx : XS P S L o v) (hd : o.dst = some d) (hn : Nat.blt d n = true)
    (k : ∀ a', Env n ((d, v) :: L) a' → wpList P ops Q rest a' w) : wpList P ops Q (o :: rest) a w := pl fun _ hK => st_x hE hS hw hx hd hn fun a' hE' => hK _ _ (k a' hE')

theorem pl_no {P : Program} {ops : Array Oper} {Q : Exit → Act → World → Prop} {o : Oper} {rest : List Oper} {a : Act} {w : World} {n d : Nat} {L : List (Nat × Value)} (hE : Env n L a) (hw : Region.wanted o (yielded ops a.tmps) = false) (hd : o.dst = some d) (hn : Nat.blt d n = true)
    (k : ∀ a', Env n ((d, undef) :: L) a' → wpList P ops Q rest a' w) : wpList P ops Q (o :: rest) a w := pl fun _ hK => st_no hE hw hd hn fun a' hE' => hK _ _ (k a' hE')

theorem x_move {P : Program} {S : World → Prop} {L : List (Nat × Value)} {d : Option Tmp} {x : Operand} {v : Value} {ty : TypeId} {pos : String} {af : Array Edge} {g : Option (Nat × Bool)} (hx : ev L x = some v) : XS P S L ⟨d, .move x, ty, pos, af, g⟩ v := fun _ _ _ hE _ => by simp [execOp, hE.ev hx]

theorem x_assign {P : Program} {S : World → Prop} {L : List (Nat × Value)} {d : Option Tmp} {x : Operand} {v : Value} {ty : TypeId} {pos : String} {af : Array Edge} {g : Option (Nat × Bool)} (hx : ev L x = some v) : XS P S L ⟨d, .assign x, ty, pos, af, g⟩ v := fun _ _ _ hE _ => by simp [execOp, hE.ev hx]

theorem x_pickT {P : Program} {S : World → Prop} {L : List (Nat × Value)} {d : Option Tmp} {c x y : Operand} {b : Bool} {v : Value} {ty : TypeId} {pos : String} {af : Array Edge} {g : Option (Nat × Bool)} (hc : ev L c = some (.bool b)) (hb : b = true) (hx : ev L x = some v) : XS P S L ⟨d, .pick c x y, ty, pos, af, g⟩ v := fun _ _ _ hE _ => by subst hb; simp [execOp, hE.ev hx, hE.ev hc, asBool]

theorem x_pickF {P : Program} {S : World → Prop} {L : List (Nat × Value)} {d : Option Tmp} {c x y : Operand} {b : Bool} {v : Value} {ty : TypeId} {pos : String} {af : Array Edge} {g : Option (Nat × Bool)} (hc : ev L c = some (.bool b)) (hb : b = false) (hy : ev L y = some v) : XS P S L ⟨d, .pick c x y, ty, pos, af, g⟩ v := fun _ _ _ hE _ => by subst hb; simp [execOp, hE.ev hy, hE.ev hc, asBool]

theorem x_not {P : Program} {S : World → Prop} {L : List (Nat × Value)} {d : Option Tmp} {t : TypeId} {x : Operand} {b : Bool} {ty : TypeId} {pos : String} {af : Array Edge} {g : Option (Nat × Bool)} (hx : ev L x = some (.bool b)) : XS P S L ⟨d, .unOp .not t x, ty, pos, af, g⟩ (.bool !b) := fun _ _ _ hE _ => by simp [execOp, hE.ev hx, Op.unary]

theorem x_add {P : Program} {S : World → Prop} {L : List (Nat × Value)} {d : Option Tmp} {t t' : TypeId} {x y : Operand} {m k : Int} {ty : TypeId} {pos : String} {af : Array Edge} {g : Option (Nat × Bool)} (hx : ev L x = some (.int .i64 m)) (hy : ev L y = some (.int .i64 k)) (h : I64 (m + k)) : XS P S L ⟨d, .binOp .add t x y t', ty, pos, af, g⟩ (.int .i64 (m + k)) := fun _ _ _ hE _ => by
  have e : IntKind.i64.wrap (m + k) = m + k := IntWalk.i64_in _ (by unfold I64 at h; omega)
  simp only [execOp, hE.ev hx, hE.ev hy, eqGuard, binOp, Op.intArith, e]; rfl

theorem x_lss {P : Program} {S : World → Prop} {L : List (Nat × Value)} {d : Option Tmp} {t t' : TypeId} {x y : Operand} {q : IntKind} {m k : Int} {ty : TypeId} {pos : String} {af : Array Edge} {g : Option (Nat × Bool)} (hx : ev L x = some (.int q m)) (hy : ev L y = some (.int q k)) : XS P S L ⟨d, .binOp .lss t x y t', ty, pos, af, g⟩ (.bool (decide (m < k))) := fun _ _ _ hE _ => by
  simp [execOp, hE.ev hx, hE.ev hy, eqGuard, binOp, Op.intCmp]

theorem x_leq {P : Program} {S : World → Prop} {L : List (Nat × Value)} {d : Option Tmp} {t t' : TypeId} {x y : Operand} {q : IntKind} {m k : Int} {ty : TypeId} {pos : String} {af : Array Edge} {g : Option (Nat × Bool)} (hx : ev L x = some (.int q m)) (hy : ev L y = some (.int q k)) : XS P S L ⟨d, .binOp .leq t x y t', ty, pos, af, g⟩ (.bool (decide (m ≤ k))) := fun _ _ _ hE _ => by
  simp [execOp, hE.ev hx, hE.ev hy, eqGuard, binOp, Op.intCmp]

theorem x_gtr {P : Program} {S : World → Prop} {L : List (Nat × Value)} {d : Option Tmp} {t t' : TypeId} {x y : Operand} {q : IntKind} {m k : Int} {ty : TypeId} {pos : String} {af : Array Edge} {g : Option (Nat × Bool)} (hx : ev L x = some (.int q m)) (hy : ev L y = some (.int q k)) : XS P S L ⟨d, .binOp .gtr t x y t', ty, pos, af, g⟩ (.bool (decide (k < m))) := fun _ _ _ hE _ => by
  simp [execOp, hE.ev hx, hE.ev hy, eqGuard, binOp, Op.intCmp]

theorem x_geq {P : Program} {S : World → Prop} {L : List (Nat × Value)} {d : Option Tmp} {t t' : TypeId} {x y : Operand} {q : IntKind} {m k : Int} {ty : TypeId} {pos : String} {af : Array Edge} {g : Option (Nat × Bool)} (hx : ev L x = some (.int q m)) (hy : ev L y = some (.int q k)) : XS P S L ⟨d, .binOp .geq t x y t', ty, pos, af, g⟩ (.bool (decide (k ≤ m))) := fun _ _ _ hE _ => by
  simp [execOp, hE.ev hx, hE.ev hy, eqGuard, binOp, Op.intCmp]

theorem x_makeFunc {P : Program} {S : World → Prop} {L : List (Nat × Value)} {d : Option Tmp} {f : Fn} {fi ca : List Operand} {fv cv : List Value} {ty : TypeId} {pos : String} {af : Array Edge} {g : Option (Nat × Bool)} (hf : evs L fi = some fv) (hc : evs L ca = some cv) : XS P S L ⟨d, .makeFunc f fi.toArray ca.toArray, ty, pos, af, g⟩ (.func f fv.toArray cv.toArray) := fun _ _ _ hE _ => by
  simp [execOp, evs_map hE _ _ hf, evs_map hE _ _ hc, Instr.makeFunc]

theorem x_len {P : Program} {S : World → Prop} {L : List (Nat × Value)} {d : Option Tmp} {x : Operand} {t e : TypeId} {A : Option Addr} {n c : Nat} {ty : TypeId} {pos : String} {af : Array Edge} {g : Option (Nat × Bool)} (ht : P.underlying t = some (.slice e)) (hx : ev L x = some (.slice A n c)) : XS P S L ⟨d, .call { callee := .builtin .len, args := #[x], argTypes := #[t] }, ty, pos, af, g⟩ (.int .i64 n) := fun _ _ _ hE _ => by
  simp [execOp, resolve, invoke, builtin, Builtin.len_, run_underlying ht, hE.ev hx, goInt]

theorem x_fieldAddr {P : Program} {S : World → Prop} {L : List (Nat × Value)} {d : Option Tmp} {x : Operand} {t : TypeId} {f b o fo : Nat} {ty : TypeId} {pos : String} {af : Array Edge} {g : Option (Nat × Bool)} (hfa : ∀ b o w, (Instr.fieldAt t (.pointer (some ⟨b, o, none⟩)) f).run P w = .ok (.pointer (some ⟨b, o + fo, none⟩)) w) (hx : ev L x = some (.pointer (some ⟨b, o, none⟩))) : XS P S L ⟨d, .fieldAddr t x f, ty, pos, af, g⟩ (.pointer (some ⟨b, o + fo, none⟩)) := fun _ _ w hE _ => by
  simp [execOp, hE.ev hx, hfa]

theorem fieldAt_of {P : Program} {t : TypeId} {fs : Array Field} {f : Nat} {fl : Field} {i : TypeInfo} (hu : P.underlying t = some (.struct fs)) (hf : fs[f]? = some fl) (hi : P.info? fl.type = some i) (hz : i.size ≠ 0) (b o : Nat) (w : World) : (Instr.fieldAt t (.pointer (some ⟨b, o, none⟩)) f).run P w = .ok (.pointer (some ⟨b, o + fl.offset, none⟩)) w := by
  simp [Instr.fieldAt, run_underlying hu, hf, Instr.sureAddr, fieldPlace, sizeOf, typeInfo, hi, hz, add_none]

/-- What is known of a slice type. -/
structure TSl (P : Program) (t e : TypeId) (sz bytes : Nat) : Prop where
  under : P.underlying t = some (.slice e)
  info : ∃ i z, P.info? e = some i ∧ i.zero = some z ∧ i.size = sz ∧ i.bytes = bytes ∧ z.cells.size = sz

theorem x_indexAddr {P : Program} {S : World → Prop} {L : List (Nat × Value)} {d : Option Tmp} {x y : Operand} {t e : TypeId} {sz by_ : Nat} {A : Option Addr} {n c b off k : Nat} {q : IntKind} {m : Int} {ty : TypeId} {pos : String} {af : Array Edge} {g : Option (Nat × Bool)} (ht : TSl P t e sz by_) (hx : ev L x = some (.slice A n c)) (hy : ev L y = some (.int q m)) (hA : A = some ⟨b, off, none⟩) (hm : m = (k : Int)) (hk : k < n) : XS P S L ⟨d, .indexAddr t x y, ty, pos, af, g⟩ (.pointer (some ⟨b, off + k * sz, none⟩)) := fun _ _ w hE _ => by
  obtain ⟨i, z, h1, _, h2, _⟩ := ht.info
  subst hA hm h2
  have h3 : (0 : Int) ≤ (k : Int) ∧ (k : Int) < (n : Int) := by omega
  simp [execOp, hE.ev hx, hE.ev hy, Instr.indexAt, asIntOf, run_underlying ht.under, sizeOf, typeInfo, h1, hk, add_none]

def isAggD : TypeDesc → Bool
  | .struct _ => true
  | .array _ _ => true
  | _ => false

/-- What is known of a variable's type: its cells, what they hold at first. -/
structure TV (P : Program) (t : TypeId) (agg : Bool) (zs : List Value) : Prop where
  under : ∃ d, P.underlying t = some d ∧ isAggD d = agg
  info : ∃ i z, P.info? t = some i ∧ i.zero = some z ∧ i.size = zs.length ∧ z.cells = zs.toArray

theorem TV.isAgg {P : Program} {t : TypeId} {agg : Bool} {zs : List Value} (h : TV P t agg zs) (w : World) : (Go.isAgg t).run P w = .ok agg w := by
  obtain ⟨d, h1, h2⟩ := h.under
  subst h2
  unfold Go.isAgg
  cases d <;> simp [run_underlying h1, isAggD]

theorem TV.load1 {P : Program} {t : TypeId} {zs : List Value} (h : TV P t false zs) {p : Addr} {w : World} {v : Value} (hc : w.cell? p = some v) : (loadVar t p).run P w = .ok v w := by
  unfold loadVar
  simp [h.isAgg w, hc]

theorem run_loadCellsFrom {P : Program} {w : World} {b o : Nat} : ∀ (cs : List Value) (i : Nat) (acc : Array Value), (∀ j v, cs[j]? = some v → w.cell? ⟨b, o + (i + j), none⟩ = some v) → (loadCellsFrom ⟨b, o, none⟩ i cs.length acc).run P w = .ok (acc ++ cs.toArray) w
  | [], i, acc, _ => by simp [loadCellsFrom]
  | v :: cs, i, acc, h => by
    have h0 := h 0 v rfl
    rw [Nat.add_zero] at h0
    have ih := run_loadCellsFrom (P := P) cs (i + 1) (acc.push v) fun j u hu => by
      have := h (j + 1) u (by simpa using hu)
      rw [show i + (j + 1) = i + 1 + j from by omega] at this; exact this
    rw [List.length_cons]
    simp only [loadCellsFrom, Go.load, add_none, Sem.run_bind, Sem.run, h0, Result.andThen_ok, ih]
    simp

theorem TV.loadN {P : Program} {t : TypeId} {zs cs : List Value} (h : TV P t true zs) {b o : Nat} {w : World} (hl : cs.length = zs.length) (hc : ∀ j v, cs[j]? = some v → w.cell? ⟨b, o + j, none⟩ = some v) : (loadVar t ⟨b, o, none⟩).run P w = .ok (.agg cs.toArray) w := by
  obtain ⟨i, z, h1, h2, h3, h4⟩ := h.info
  have hL := run_loadCellsFrom (P := P) (w := w) (b := b) (o := o) cs 0 #[] (fun j v hv => by rw [Nat.zero_add]; exact hc j v hv)
  unfold loadVar loadCells
  simp only [Sem.run_bind, h.isAgg w, Result.andThen_ok, sizeOf, typeInfo]
  simp [h1, h3, ← hl, hL]

theorem x_load1 {P : Program} {S : World → Prop} {L : List (Nat × Value)} {d : Option Tmp} {x : Operand} {t : TypeId} {zs : List Value} {p : Addr} {v : Value} {ty : TypeId} {pos : String} {af : Array Edge} {g : Option (Nat × Bool)} (ht : TV P t false zs) (hx : ev L x = some (.pointer (some p))) (hc : ∀ w, S w → w.cell? p = some v) : XS P S L ⟨d, .load t x, ty, pos, af, g⟩ v := fun _ _ w hE hS => by
  simp [execOp, hE.ev hx, Instr.loadAt, Instr.sureAddr, ht.load1 (hc w hS)]

/-- What a held block's cell holds. -/
theorem c_blk {M : Nat → Prop} {w0 : World} {rs : List Res} {g : Nat} {t : TypeId} {cs : List Value} {v : Value} {o : Nat} (i : Nat) (hi : rs[i]? = some (rBlk g t cs)) (hv : cs[o]? = some v) : ∀ w, Held M w0 rs w → w.cell? ⟨g, o, none⟩ = some v := fun w h => by
  have h1 : Blk w g t cs.toArray := h.get hi
  rw [h1.cell]; simpa using hv

theorem c_blkN {M : Nat → Prop} {w0 : World} {rs : List Res} {g : Nat} {t : TypeId} {cs : List Value} (i : Nat) (hi : rs[i]? = some (rBlk g t cs)) : ∀ w, Held M w0 rs w → ∀ j v, cs[j]? = some v → w.cell? ⟨g, 0 + j, none⟩ = some v := fun w h j v hv => by
  rw [Nat.zero_add]; exact c_blk i hi hv w h

/-- What a cell held at the start. -/
theorem c_old {w0 : World} {rs : List Res} {b o : Nat} {v : Value} (hc : w0.cell? ⟨b, o, none⟩ = some v) : ∀ w, Held Nob w0 rs w → w.cell? ⟨b, o, none⟩ = some v := fun w h => by
  rw [h.cell0 (lt_of_cell hc) fun h => h]; exact hc

/-- An element of a slice that was there at the start. -/
theorem el_old {w0 : World} {α : Type} {E : Enc α} {A : Option Addr} {c : Nat} {xs : List α} (h : Sl E w0 (Old w0) A c xs) {k : Nat} (hk : k < xs.length) :
    ∃ b off es, A = some ⟨b, off, none⟩ ∧ E.R w0 (Old w0) es xs[k] ∧ ∀ j v, es[j]? = some v → w0.cell? ⟨b, off + k * E.size + j, none⟩ = some v := by
  obtain ⟨b, off, es, h1, _, h2, h3⟩ := h.at hk
  exact ⟨b, off, es, h1, h2, h3⟩

theorem run_box {P : Program} {n : Nat} {a : Act} {L : List (Nat × Value)} {w : World} {t : TypeId} {x : Operand} {v : Value} {cs : List Value} {d : Option Tmp} {ty : TypeId} {pos : String} {af : Array Edge} {g : Option (Nat × Bool)} (hE : Env n L a) (hx : ev L x = some v) (hv : v.cells = cs.toArray) : (execOp a.eval ⟨d, .box t x, ty, pos, af, g⟩).run P w = .ok (.value (.pointer (some ⟨w.heap.size, 0, none⟩))) (w.alloc (.cells cs.toArray t)) := by
  simp [execOp, Instr.box, hE.ev hx, newVar, newRow, hv]

theorem st_box {P : Program} {ops : Array Oper} {Q : Exit → Act → World → Prop} {a : Act} {w : World} {K : Act → World → Prop} {n d : Nat} {L : List (Nat × Value)} {M : Nat → Prop} {w0 : World} {rs : List Res} {t : TypeId} {x : Operand} {v : Value} {cs : List Value} {ty : TypeId} {pos : String} {af : Array Edge} {g : Option (Nat × Bool)} (hE : Env n L a) (hH : Held M w0 rs w) (hx : ev L x = some v) (hv : v.cells = cs.toArray) (hw : Region.wanted ⟨some d, .box t x, ty, pos, af, g⟩ (yielded ops a.tmps) = true) (hn : Nat.blt d n = true)
    (k : ∀ q a' w', Env n ((d, .pointer (some ⟨q, 0, none⟩)) :: L) a' → Held M w0 (rBlk q t cs :: rs) w' → K a' w') : Stp P ops Q ⟨some d, .box t x, ty, pos, af, g⟩ a w K :=
  st_val hE hw (run_box hE hx hv) rfl hn fun a' hE' => k _ a' _ hE' (hH.alloc t cs)

/-- A slice literal. -/
theorem st_lit {P : Program} {ops : Array Oper} {Q : Exit → Act → World → Prop} {o : Oper} {a : Act} {w : World} {K : Act → World → Prop} {n d m : Nat} {L : List (Nat × Value)} {M : Nat → Prop} {w0 : World} {rs : List Res} {e : TypeId} {cs : List Value} (hE : Env n L a) (hH : Held M w0 rs w)
    (hr : (execOp a.eval o).run P w = .ok (.value (.slice (some ⟨w.heap.size, 0, none⟩) m m)) (w.alloc (.cells cs.toArray e))) (hw : Region.wanted o (yielded ops a.tmps) = true) (hd : o.dst = some d) (hn : Nat.blt d n = true)
    (k : ∀ q a' w', Env n ((d, .slice (some ⟨q, 0, none⟩) m m) :: L) a' → Held M w0 (rBlk q e cs :: rs) w' → K a' w') : Stp P ops Q o a w K :=
  st_val hE hw hr hd hn fun a' hE' => k _ a' _ hE' (hH.alloc e cs)

/-- A row of elements: the cells of each, and the blocks that each owns. -/
def Vec {α : Type} (E : Enc α) (t : TypeId) (w : World) (S : Nat → Prop) (v : Value) (xs : List α) : Prop :=
  ∃ (css : List (List Value)) (T : Nat → Nat → Prop), css.length = xs.length ∧ w.ownsRow 0 t E.size v xs.length css.flatten ∧ (∀ b, v.ownBlock = some b → S b) ∧ (∀ i b, T i b → S b ∧ v.ownBlock ≠ some b) ∧ (∀ i j b, T i b → T j b → i = j) ∧
    ∀ (i : Nat) (x : α), xs[i]? = some x → ∃ es, css[i]? = some es ∧ E.O w (T i) es x

theorem ownsRow_keep {w w' : World} {base : Nat} {t : TypeId} {size : Nat} {v : Value} {n : Nat} {xs : List Value} (h : w.ownsRow base t size v n xs) (hk : ∀ b, v.ownBlock = some b → w'.heap[b]? = w.heap[b]?) : w'.ownsRow base t size v n xs := by
  refine ⟨h.1, ?_⟩
  rcases h.2 with h2 | ⟨g, cap, cur, rfl, hg, hh, r⟩
  · exact .inl h2
  · exact .inr ⟨g, cap, cur, rfl, hg, (hk g rfl).trans hh, r⟩

theorem Vec.keep {α : Type} {E : Enc α} {t : TypeId} {w w' : World} {S : Nat → Prop} {v : Value} {xs : List α} (h : Vec E t w S v xs) (hk : ∀ b, S b → w'.heap[b]? = w.heap[b]?) : Vec E t w' S v xs := by
  obtain ⟨css, T, h1, h2, h3, h4, h5, h6⟩ := h
  refine ⟨css, T, h1, ownsRow_keep h2 fun b hb => hk b (h3 b hb), h3, h4, h5, fun i x hx => ?_⟩
  obtain ⟨es, h7, h8⟩ := h6 i x hx
  exact ⟨es, h7, E.okeep h8 fun b hb => hk b (h4 i b hb).1⟩

def rVec {α : Type} (E : Enc α) (t : TypeId) (S : Nat → Prop) (A : Option Addr) (c : Nat) (xs : List α) : Res :=
  ⟨S, fun w => Vec E t w S (.slice A xs.length c) xs, fun _ _ h hv => hv.keep h⟩

theorem Held.vecNil {M : Nat → Prop} {w0 : World} {rs : List Res} {w : World} (h : Held M w0 rs w) {α : Type} (E : Enc α) (t : TypeId) : Held M w0 (rVec E t Nob none 0 [] :: rs) w :=
  h.new (Below.refl _ _) (rVec E t Nob none 0 []) ⟨[], fun _ _ => False, rfl, World.ownsRow_nil _ _ _ _, (fun b hb => by cases hb), fun _ _ h => h.elim, fun _ _ _ h => h.elim, fun i x hx => by simp at hx⟩ fun _ h => h.elim

/-- A block with the cells of flat elements is a row of them. -/
theorem Held.vecFlat {M : Nat → Prop} {w0 : World} {g : Nat} {t : TypeId} {rs : List Res} {w : World} {α : Type} {E : Enc α} {xs : List α} {css : List (List Value)} (h : Held M w0 (rBlk g t css.flatten :: rs) w) (hl : css.length = xs.length) (hm : xs.length ≤ maxLen) (hO : ∀ (i : Nat) (x : α), xs[i]? = some x → ∃ es, css[i]? = some es ∧ ∀ W, E.O W Nob es x) : Held M w0 (rVec E t (fun b => b = g) (some ⟨g, 0, none⟩) xs.length xs :: rs) w := by
  have hfl : css.flatten.length = xs.length * E.size := by
    have key : ∀ (css : List (List Value)) (xs : List α), css.length = xs.length → (∀ (i : Nat) (x : α), xs[i]? = some x → ∃ es, css[i]? = some es ∧ ∀ W, E.O W Nob es x) → css.flatten.length = xs.length * E.size := by
      intro css
      induction css with
      | nil => intro xs hl _; simp at hl; simp [hl.symm]
      | cons e css ih =>
        intro xs hl hO
        rcases xs with _ | ⟨x, xs⟩
        · simp at hl
        · obtain ⟨es, h1, h2⟩ := hO 0 x rfl
          simp at h1; subst h1
          rw [List.flatten_cons, List.length_append, ih xs (by simpa using hl) (fun i y hy => by simpa using hO (i + 1) y (by simpa using hy)), E.len (E.read (h2 default)), List.length_cons, Nat.succ_mul]; omega
    exact key css xs hl hO
  refine h.turn _ (fun hB => ⟨css, fun _ _ => False, hl, ⟨hfl, .inr ⟨g, xs.length, css.flatten.toArray, rfl, Nat.zero_le _, hB, Nat.le_refl _, hm, by simpa using hfl, ?_⟩⟩, (fun b hb => by simpa [Value.ownBlock] using hb.symm), fun _ _ h => h.elim, fun _ _ _ h => h.elim, fun i x hx => ?_⟩) fun _ hb => hb
  · rw [← hfl]; exact List.take_length
  · obtain ⟨es, h1, h2⟩ := hO i x hx
    exact ⟨es, h1, E.omore (h2 w) fun _ h => h.elim⟩

theorem flatten_at (s : Nat) : ∀ (css : List (List Value)), (∀ es ∈ css, es.length = s) → ∀ (i : Nat) (es : List Value), css[i]? = some es → ∀ j, j < s → css.flatten[i * s + j]? = es[j]?
  | [], _, i, es, hx, _, _ => by simp at hx
  | e :: css, h, 0, es, hx, j, hj => by
    simp at hx; subst hx
    rw [List.flatten_cons, Nat.zero_mul, Nat.zero_add, List.getElem?_append_left (by rw [h e (by simp)]; exact hj)]
  | e :: css, h, i + 1, es, hx, j, hj => by
    have hy := h e (by simp)
    rw [List.flatten_cons, Nat.succ_mul, List.getElem?_append_right (by rw [hy]; omega), hy, show i * s + s + j - s = i * s + j from by omega]
    exact flatten_at s css (fun z hz => h z (by simp [hz])) i es (by simpa using hx) j hj

theorem Vec.so {α : Type} {E : Enc α} {t : TypeId} {w : World} {S : Nat → Prop} {A : Option Addr} {c : Nat} {xs : List α} (h : Vec E t w S (.slice A xs.length c) xs) : So E w S A c xs := by
  obtain ⟨css, T, h1, h2, h3, h4, h5, h6⟩ := h
  rcases h2.2 with ⟨he, hn⟩ | ⟨g, cap, cur, he, hg, hh, hnc, hcm, hcs, htk⟩
  · have hx : xs = [] := List.eq_nil_of_length_eq_zero hn
    subst hx
    simp only [Value.slice.injEq] at he
    obtain ⟨rfl, _, rfl⟩ := he
    exact So.nil (Nat.zero_le _)
  · simp only [Value.slice.injEq, true_and] at he
    obtain ⟨rfl, rfl⟩ := he
    refine ⟨hnc, hcm, fun _ => ⟨g, 0, t, cur, T, rfl, h3 g rfl, hh, fun i k hk => ⟨(h4 i k hk).1, fun e => (h4 i k hk).2 (by rw [e]; rfl)⟩, h5, fun i x hx => ?_⟩⟩
    obtain ⟨es, h7, h8⟩ := h6 i x hx
    refine ⟨es, h8, fun j u hu => ?_⟩
    have hi := (List.getElem?_eq_some_iff.1 hx).1
    have hj := (List.getElem?_eq_some_iff.1 hu).1
    have hl : ∀ es ∈ css, es.length = E.size := fun es hes => by
      obtain ⟨m, hm, rfl⟩ := List.getElem_of_mem hes
      obtain ⟨es', h9, h10⟩ := h6 m xs[m] (List.getElem?_eq_getElem (by omega))
      rw [List.getElem?_eq_getElem hm] at h9
      simp at h9; rw [h9]; exact E.len (E.read h10)
    rw [hl es (List.mem_of_getElem? h7)] at hj
    have h9 := flatten_at E.size css hl i es h7 j hj
    rw [← htk] at h9
    have hlt : i * E.size + j < xs.length * E.size := by
      have : (i + 1) * E.size ≤ xs.length * E.size := Nat.mul_le_mul_right _ (by omega)
      rw [Nat.succ_mul] at this; omega
    rw [List.getElem?_take_of_lt hlt, Array.getElem?_toList] at h9
    rw [Nat.zero_add, h9]; exact hu

theorem Held.vecSo {M : Nat → Prop} {w0 : World} {rs : List Res} {w : World} {α : Type} {E : Enc α} {t : TypeId} {S : Nat → Prop} {A : Option Addr} {c : Nat} {xs : List α} (h : Held M w0 (rVec E t S A c xs :: rs) w) : Held M w0 (rSo E S A c xs :: rs) w :=
  h.turn _ (fun hv => oSl (Vec.so hv)) fun _ hb => hb

theorem Held.vecSl {M : Nat → Prop} {w0 : World} {rs : List Res} {w : World} {α : Type} {E : Enc α} {t : TypeId} {S : Nat → Prop} {A : Option Addr} {c : Nat} {xs : List α} (h : Held M w0 rs w) {i : Nat} (hi : rs[i]? = some (rVec E t S A c xs)) : Sl E w (Old w) A c xs :=
  (Vec.so (h.get hi)).sl.more fun b hb => (h.rng _ (List.mem_of_getElem? hi) b hb).2

theorem vec_shape {w : World} {base : Nat} {t : TypeId} {size : Nat} {v : Value} {n : Nat} {xs : List Value} (h : w.ownsRow base t size v n xs) : ∃ A c, v = .slice A n c := by
  rcases h.2 with ⟨rfl, rfl⟩ | ⟨g, cap, cur, rfl, _⟩
  · exact ⟨none, 0, rfl⟩
  · exact ⟨_, cap, rfl⟩

theorem grown_chg {w w' : World} {row : Option Nat} (h : w.grownBy w' row) : Chg (fun b => row = some b) w w' := ⟨h.os, h.tape, h.output, h.size, fun k hk hS => h.block k hk fun e => hS e.symm⟩

/-- Elements laid at ad, one after another, are appended; each with the blocks U that it owns. -/
theorem run_append_vec {P : Program} {M : Nat → Prop} {w0 : World} {rs : List Res} {w : World} {α : Type} {E : Enc α} {t e : TypeId} {bytes : Nat} {S U : Nat → Prop} {A : Option Addr} {c : Nat} {xs : List α} (he : TSl P t e E.size bytes) (ty : TypeId)
    (h : Held M w0 (rVec E e S A c xs :: rs) w) (ad : Addr) (ys : List α) (c2 : Nat) (dss : List (List Value)) (hl : dss.length = ys.length) (hcell : ∀ j u, dss.flatten[j]? = some u → w.cell? (ad.add j) = some u) (h1 : ∀ es ∈ dss, ∀ u ∈ es, u.oneCell' = true)
    (V : Nat → Nat → Prop) (hV : ∀ i b, V i b → U b) (hVd : ∀ i j b, V i b → V j b → i = j) (hO : ∀ (i : Nat) (y : α), ys[i]? = some y → ∃ es, dss[i]? = some es ∧ E.O w (V i) es y) (hU : ∀ b, U b → ¬ S b ∧ b < w.heap.size)
    (h63 : xs.length + ys.length ≤ maxLen) (hbytes : (xs.length + ys.length) * bytes ≤ 140737488355328) :
    ∃ A' c' S' w', (Builtin.append_ #[t, t] ty #[.slice A xs.length c, .slice (some ad) ys.length c2]).run P w = .ok (.slice A' (xs ++ ys).length c') w' ∧ Vec E e w' S' (.slice A' (xs ++ ys).length c') (xs ++ ys) ∧ Chg S w w' ∧ (∀ b, S' b → S b ∨ U b ∨ (w.heap.size ≤ b ∧ b < w'.heap.size)) := by
  obtain ⟨i, z, hi, hz0, hz1, hz2, hz3⟩ := he.info
  obtain ⟨css, T, k1, k2, k3, k4, k5, k6⟩ := h.ok _ (List.mem_cons_self)
  have hrng := h.rng _ (List.mem_cons_self)
  have hfl : dss.flatten.length = ys.length * E.size := by
    have key : ∀ (dss : List (List Value)) (ys : List α), dss.length = ys.length → (∀ (i : Nat) (y : α), ys[i]? = some y → ∃ es : List Value, dss[i]? = some es ∧ es.length = E.size) → dss.flatten.length = ys.length * E.size := by
      intro dss
      induction dss with
      | nil => intro ys hl _; simp at hl; simp [hl.symm]
      | cons e dss ih =>
        intro ys hl hO
        rcases ys with _ | ⟨y, ys⟩
        · simp at hl
        · obtain ⟨es, h1, h2⟩ := hO 0 y rfl
          simp at h1; subst h1
          rw [List.flatten_cons, List.length_append, ih ys (by simpa using hl) (fun i y hy => by simpa using hO (i + 1) y (by simpa using hy)), h2, List.length_cons, Nat.succ_mul]; omega
    exact key dss ys hl fun i y hy => by obtain ⟨es, h1, h2⟩ := hO i y hy; exact ⟨es, h1, E.len (E.read h2)⟩
  obtain ⟨v', w', e1, e2, e3, e4, e5⟩ := run_append_own_at (P := P) w 0 t ty e i z E.size bytes he.under hi hz0 hz1 hz2 hz3 E.pos _ xs.length css.flatten k2 ad ys.length c2 dss.flatten hfl hcell (fun u hu => by obtain ⟨es, h2, h3⟩ := List.mem_flatten.1 hu; exact h1 es h2 u h3) h63 hbytes (Nat.zero_le _)
  obtain ⟨A', c', rfl⟩ := vec_shape e2
  have hch := grown_chg e3
  refine ⟨A', c', fun b => S b ∨ U b ∨ (w.heap.size ≤ b ∧ b < w'.heap.size), w', by rw [List.length_append]; exact e1, ?_, hch.mono (fun b hb => k3 b hb), fun b hb => hb⟩
  have hnew : ∀ b, (Value.slice A' (xs.length + ys.length) c').ownBlock = some b → (Value.slice A xs.length c).ownBlock = some b ∨ (w.heap.size ≤ b ∧ b < w'.heap.size) := by
    intro b hb
    rcases e5 with e5 | e5
    · left; rw [← e5]; exact hb
    · right
      have hb2 : b = w.heap.size := by rw [e5] at hb; exact (Option.some.inj hb).symm
      rcases e2.2 with ⟨q, _⟩ | ⟨g, cap, cur, q, _, hh, _⟩
      · rw [q] at hb; cases hb
      · rw [q] at hb
        have : g = b := by simpa [Value.ownBlock] using hb
        subst this
        exact ⟨by omega, Blk.lt (t := e) (cur := cur) hh⟩
  rw [List.length_append]
  refine ⟨css ++ dss, fun i b => (i < xs.length ∧ T i b) ∨ (xs.length ≤ i ∧ V (i - xs.length) b), by simp [k1, hl], by rw [List.flatten_append, List.length_append]; exact e2, fun b hb => ?_, fun i b hb => ?_, fun i j b hi hj => ?_, fun m x hx => ?_⟩
  · rcases hnew b hb with hb | hb
    · exact .inl (k3 b hb)
    · exact .inr (.inr hb)
  · rcases hb with ⟨_, hb⟩ | ⟨_, hb⟩
    · refine ⟨.inl (k4 i b hb).1, fun hb' => ?_⟩
      rcases hnew b hb' with q | q
      · exact (k4 i b hb).2 q
      · have := (hrng b (k4 i b hb).1).2; omega
    · refine ⟨.inr (.inl (hV _ b hb)), fun hb' => ?_⟩
      rcases hnew b hb' with q | q
      · exact (hU b (hV _ b hb)).1 (k3 b q)
      · have := (hU b (hV _ b hb)).2; omega
  · rcases hi with ⟨hi1, hi⟩ | ⟨hi1, hi⟩ <;> rcases hj with ⟨hj1, hj⟩ | ⟨hj1, hj⟩
    · exact k5 i j b hi hj
    · exact absurd (k4 i b hi).1 (hU b (hV _ b hj)).1
    · exact absurd (k4 j b hj).1 (hU b (hV _ b hi)).1
    · have := hVd _ _ b hi hj; omega
  · by_cases hm : m < xs.length
    · rw [List.getElem?_append_left hm] at hx
      obtain ⟨es, h2, h3⟩ := k6 m x hx
      refine ⟨es, by rw [List.getElem?_append_left (by omega)]; exact h2, E.omore (E.okeep h3 fun b hb => ?_) fun b hb => .inl ⟨hm, hb⟩⟩
      exact hch.block b (hrng b (k4 m b hb).1).2 fun q => (k4 m b hb).2 q
    · rw [List.getElem?_append_right (by omega)] at hx
      obtain ⟨es, h2, h3⟩ := hO _ x hx
      refine ⟨es, by rw [List.getElem?_append_right (by omega), k1]; exact h2, E.omore (E.okeep h3 fun b hb => ?_) fun b hb => .inr ⟨by omega, hb⟩⟩
      exact hch.block b (hU b (hV _ b hb)).2 fun q => (hU b (hV _ b hb)).1 (k3 b q)

theorem Held.mut2 {M : Nat → Prop} {w0 : World} {r s : Res} {rs : List Res} {w w' : World} (h : Held M w0 (r :: s :: rs) w) (hc : Chg r.S w w') (r' : Res) (hr : r'.φ w') (hS : ∀ b, r'.S b → r.S b ∨ s.S b ∨ (w.heap.size ≤ b ∧ b < w'.heap.size)) : Held M w0 (r' :: rs) w' := by
  have h1 : Held M w0 (⟨fun b => r.S b ∨ s.S b, fun _ => True, fun _ _ _ _ => trivial⟩ :: rs) w := h.join ⟨fun b => r.S b ∨ s.S b, fun _ => True, fun _ _ _ _ => trivial⟩ (fun _ _ _ => trivial) fun _ hb => hb
  have h2 := h1.mut (i := 0) rfl (hc.mono fun b hb => .inl hb) r' hr fun b hb => by
    rcases hS b hb with q | q | q
    · exact .inl (.inl q)
    · exact .inl (.inr q)
    · exact .inr q
  exact h2

/-- One flat element is appended. -/
theorem st_app1F {P : Program} {ops : Array Oper} {Q : Exit → Act → World → Prop} {a : Act} {w : World} {K : Act → World → Prop} {n d : Nat} {L : List (Nat × Value)} {M : Nat → Prop} {w0 : World} {rs rs' : List Res} {α : Type} {E : Enc α} {t e : TypeId} {bytes : Nat} {S : Nat → Prop} {A : Option Addr} {c g : Nat} {xs : List α} {es : List Value} {x1 x2 : Operand} {ty : TypeId} {pos : String} {af : Array Edge} {gd : Option (Nat × Bool)} (y : α) (hE : Env n L a) (hH : Held M w0 rs w) (he : TSl P t e E.size bytes) (is : List Nat) (hn1 : is.Nodup) (his : pick rs is = some (rVec E e S A c xs :: rBlk g e es :: rs')) (hO : ∀ W, E.O W Nob es y)
    (hx1 : ev L x1 = some (.slice A xs.length c)) (hx2 : ev L x2 = some (.slice (some ⟨g, 0, none⟩) 1 1)) (h1 : ∀ u ∈ es, u.oneCell' = true) (h63 : xs.length + 1 ≤ maxLen) (hbytes : (xs.length + 1) * bytes ≤ 140737488355328) (hw : Region.wanted ⟨some d, .call { callee := .builtin .append, args := #[x1, x2], argTypes := #[t, t] }, ty, pos, af, gd⟩ (yielded ops a.tmps) = true) (hn : Nat.blt d n = true)
    (k : ∀ A' c' S' a' w', Env n ((d, .slice A' (xs ++ [y]).length c') :: L) a' → Held M w0 (rVec E e S' A' c' (xs ++ [y]) :: rs') w' → K a' w') : Stp P ops Q ⟨some d, .call { callee := .builtin .append, args := #[x1, x2], argTypes := #[t, t] }, ty, pos, af, gd⟩ a w K := by
  have h := hH.sel is hn1 his
  have hB : Blk w g e es.toArray := h.ok (rBlk g e es) (by simp)
  obtain ⟨A', c', S', w', e1, e2, e3, e4⟩ := run_append_vec (U := Nob) he ty h ⟨g, 0, none⟩ [y] 1 [es] rfl (fun j u hu => by rw [add_none, Nat.zero_add, hB.cell]; simpa using hu) (by simpa using h1)
    (fun _ _ => False) (fun i b hb => hb.elim) (fun i j b hi hj => hi.elim) (fun i z hz => by
      rcases i with _ | i
      · simp at hz; subst hz; exact ⟨es, rfl, hO w⟩
      · simp at hz) (fun b hb => hb.elim) h63 hbytes
  have h2 : Held M w0 (rVec E e S' A' c' (xs ++ [y]) :: rs') w' := h.mut2 e3 (rVec E e S' A' c' (xs ++ [y])) e2 (fun b hb => by
    rcases e4 b hb with q | q | q
    · exact .inl q
    · exact q.elim
    · exact .inr (.inr q))
  refine st_val hE hw ?_ rfl hn fun a' hE' => k A' c' S' a' w' hE' h2
  simp only [List.length_singleton] at e1
  simp only [execOp, resolve, invoke, builtin, Sem.run_bind, Sem.run_pure, Result.andThen_ok, List.map_toArray, List.map_cons, List.map_nil, hE.ev hx1, hE.ev hx2, e1]

abbrev tRewrite : Type := (List Int) × (List Int)

abbrev eRewrite : Enc tRewrite := (ePr (eSl eInt) (eSl eInt))

theorem shape_Rewrite {w : World} {S : Nat → Prop} {es : List Value} {x : tRewrite} (h : eRewrite.R w S es x) : ∃ A0 c0 A1 c1, es = [.slice A0 x.1.length c0, .slice A1 x.2.length c1] ∧ Sl eInt w S A0 c0 x.1 ∧ Sl eInt w S A1 c1 x.2 := by
  obtain ⟨_, _, rfl, ⟨A0, c0, rfl, h0⟩, ⟨A1, c1, rfl, h1⟩⟩ := h
  exact ⟨A0, c0, A1, c1, rfl, h0, h1⟩

theorem any_hit {α : Type} {p : α → Bool} {xs : List α} {k : Nat} (hk : k < xs.length) (h : p xs[k] = true) : xs.any p = true :=
  List.any_eq_true.2 ⟨_, List.getElem_mem hk, h⟩

theorem any_step {α : Type} {p : α → Bool} {xs : List α} {k : Nat} (hk : k < xs.length) (h0 : (xs.take k).any p = false) (h : p xs[k] = false) : (xs.take (k + 1)).any p = false := by
  rw [List.take_succ_eq_append_getElem hk, List.any_append, h0]; simp [h]

/-- Equality of two lists, element by element. -/
def eqL {α : Type} (p : α → α → Bool) : List α → List α → Bool
  | [], [] => true
  | x :: xs, y :: ys => p x y && eqL p xs ys
  | _, _ => false

theorem eqL_refl {α : Type} {p : α → α → Bool} (hp : ∀ x, p x x = true) : ∀ xs : List α, eqL p xs xs = true
  | [] => rfl
  | x :: xs => by rw [eqL, hp, eqL_refl hp xs]; rfl

theorem eqL_len {α : Type} {p : α → α → Bool} : ∀ (xs ys : List α), xs.length ≠ ys.length → eqL p xs ys = false
  | [], [], h => absurd rfl h
  | [], _ :: _, _ => rfl
  | _ :: _, [], _ => rfl
  | x :: xs, y :: ys, h => by rw [eqL, eqL_len xs ys (by simpa using h)]; simp

theorem eqL_get {α : Type} {p : α → α → Bool} : ∀ (xs ys : List α) (k : Nat) (h1 : k < xs.length) (h2 : k < ys.length), p xs[k] ys[k] = false → eqL p xs ys = false
  | x :: xs, y :: ys, 0, _, _, h => by rw [eqL]; simp at h; rw [h]; rfl
  | x :: xs, y :: ys, k + 1, h1, h2, h => by rw [eqL, eqL_get xs ys k (by simpa using h1) (by simpa using h2) (by simpa using h)]; simp

theorem eqL_all {α : Type} {p : α → α → Bool} : ∀ (xs ys : List α), xs.length = ys.length → (∀ k (h1 : k < xs.length) (h2 : k < ys.length), p xs[k] ys[k] = true) → eqL p xs ys = true
  | [], [], _, _ => rfl
  | x :: xs, y :: ys, hl, h => by
    have e : p x y = true := h 0 (Nat.zero_lt_succ _) (Nat.zero_lt_succ _)
    have e' : eqL p xs ys = true := eqL_all xs ys (by simpa using hl) fun k h1 h2 => h (k + 1) (Nat.succ_lt_succ h1) (Nat.succ_lt_succ h2)
    rw [eqL, e, e']; rfl
  | [], _ :: _, hl, _ => by simp at hl
  | _ :: _, [], hl, _ => by simp at hl

theorem len_beq (n : Nat) : ((n : Int) == 0) = decide (n = 0) := by
  rw [Bool.eq_iff_iff, beq_iff_eq, decide_eq_true_iff]; omega

theorem ret_bool {a b : Bool} (h : a = b) : Ending.returned (.bool a) = .returned (.bool b) := by rw [h]

def withinB (n lo hi : Int) : Bool := decide (lo ≤ n) && decide (n ≤ hi)

theorem withinB_true {n lo hi : Int} : withinB n lo hi = true ↔ lo ≤ n ∧ n ≤ hi := by
  unfold withinB; simp

theorem impl_within (n lo hi : Int) (w : World) :
    Calls Try.prog 69 #[.int .i64 n, .int .i64 lo, .int .i64 hi] w fun e w' => e = .returned (.bool (withinB n lo hi)) ∧ w = w' := by
  unfold withinB
  by_cases h1 : lo ≤ n
  · go_enter Try.func69, Try.ntmps69
    go_wp2
    go_ret
    exact ⟨by first | (simp; done) | simp [h1], rfl⟩
  · have h2 : decide (lo ≤ n) = false := by simpa using h1
    go_enter Try.func69, Try.ntmps69
    go_wp2
    go_ret
    exact ⟨by first | (simp; done) | simp [h2], rfl⟩

theorem spec_l00In (n lo hi : Int) (w : World) :
    Calls Try.prog 67 #[.int .i64 n, .int .i64 lo, .int .i64 hi] w fun e w' => e = .returned (.bool (withinB n lo hi)) ∧ w = w' := by
  unfold withinB
  by_cases h1 : lo ≤ n
  · go_enter Try.func67, Try.ntmps67
    go_wp2
    go_ret
    exact ⟨by first | (simp; done) | simp [h1], rfl⟩
  · have h2 : decide (lo ≤ n) = false := by simpa using h1
    go_enter Try.func67, Try.ntmps67
    go_wp2
    go_ret
    exact ⟨by first | (simp; done) | simp [h2], rfl⟩

theorem impl_size_Rewrite (a : Option Addr) (n c : Nat) (w : World) :
    Calls Try.prog 144 #[.slice a n c] w fun e w' => e = .returned (.int .i64 n) ∧ w = w' := by
  go_enter Try.func144, Try.ntmps144
  go_wp2
  go_ret
  exact ⟨rfl, rfl⟩

set_option maxHeartbeats 400000 in
theorem IndexFunc_Int64S (p : (List Int) → Bool) (g : Nat) (lb : Array Value) (A : Option Addr) (c : Nat) (xs : List (List Int)) (w : World) (h : Sl (eSl eInt) w (Old w) A c xs)
    (eg : ∀ args w, (callFunc g args).run Try.prog w = .ok (.enter g args) w) (hp : ∀ W x es, x ∈ xs → Below w.heap.size w W → (eSl eInt).R W (Old W) es x → Calls Try.prog g (#[es[0]!] ++ lb) W fun e w' => e = .returned (.bool (p x)) ∧ Below W.heap.size W w') :
    Calls Try.prog 194 #[.slice A xs.length c, .func (.func g) #[] lb] w fun e w' => (∃ r : Int, e = .returned (.int .i64 r) ∧ decide (0 ≤ r) = xs.any p) ∧ Below w.heap.size w w' := by
  have hlen := h.len
  have H := Lib.hid h; clear h
  have HP := Lib.hid hp; clear hp
  go_enter Try.func194, Try.ntmps194
  go_wp2
  go_loopg [5, 8] xs.length (fun gg _ s8 wr => ∃ k : Nat, k ≤ xs.length ∧ xs.length - k ≤ gg ∧ s8 = .int .i64 k ∧ Hid (Below w.heap.size w wr) ∧ Hid ((xs.take k).any p = false))
  case atStart => exact ⟨0, Nat.zero_le _, by omega, rfl, Below.refl _ w, rfl⟩
  case round =>
    obtain ⟨k, hk, hg, rfl, BW, HN⟩ := hrel
    by_cases hlt : k < xs.length
    · have hltz : (k : Int) < (xs.length : Int) := by omega
      obtain ⟨b, off, es, rfl, hb, hR, hc⟩ := H.out.at1 rfl hlt
      have hcall := HP.out wr xs[k] _ (List.getElem_mem hlt) BW.out ((eSl eInt).on hR BW.out)
      obtain ⟨Aq, cq, rfl, gq⟩ := hR
      have d0 : wr.cell? ⟨b, off + k, none⟩ = some (.slice Aq xs[k].length cq) := (below_olds BW.out _ hb).trans (hc _ rfl)
      clear hc gq
      try clear hR
      have HQ1 : Hid (p xs[k] = true → xs.any p = true) := any_hit hlt
      have HQ0 : Hid (p xs[k] = false → (xs.take (k + 1)).any p = false) := any_step hlt HN.out
      generalize xs[k] = y at d0 hcall HQ1 HQ0
      cases hq : p y with
      | true =>
        rw [hq] at hcall
        have HQ := Lib.hid (HQ1.out hq); clear hq HQ1 HQ0
        go_wp2_with (go_at_fn g; refine hcall.mono ?_; rintro e w' ⟨rfl, hb'⟩)
        go_ret
        exact ⟨⟨k, rfl, by rw [HQ.out]; simp⟩, below_trans BW.out hb'⟩
      | false =>
        rw [hq] at hcall
        have HQ := Lib.hid (HQ0.out hq); clear hq HQ1 HQ0
        go_wp2_with (go_at_fn g; refine hcall.mono ?_; rintro e w' ⟨rfl, hb'⟩)
        go_roundg (xs.length - (k + 1))
        case measure => omega
        case rel => exact ⟨k + 1, by omega, by omega, by go_num, below_trans BW.out hb', HQ.out⟩
    · have hltz : ¬ (k : Int) < (xs.length : Int) := by omega
      obtain rfl : k = xs.length := by omega
      go_wp2
      go_ret
      refine ⟨⟨-1, rfl, ?_⟩, BW.out⟩
      have := HN.out
      rw [List.take_length] at this
      rw [this]; rfl

theorem ContainsFunc_Int64S (p : (List Int) → Bool) (g : Nat) (lb : Array Value) (A : Option Addr) (c : Nat) (xs : List (List Int)) (w : World) (h : Sl (eSl eInt) w (Old w) A c xs)
    (eg : ∀ args w, (callFunc g args).run Try.prog w = .ok (.enter g args) w) (hp : ∀ W x es, x ∈ xs → Below w.heap.size w W → (eSl eInt).R W (Old W) es x → Calls Try.prog g (#[es[0]!] ++ lb) W fun e w' => e = .returned (.bool (p x)) ∧ Below W.heap.size W w') :
    Calls Try.prog 183 #[.slice A xs.length c, .func (.func g) #[] lb] w fun e w' => e = .returned (.bool (xs.any p)) ∧ Below w.heap.size w w' := by
  have hI := Lib.hid (IndexFunc_Int64S p g lb A c xs w h eg hp); clear h hp eg
  go_enter Try.func183, Try.ntmps183
  go_wp2_with (go_at_call 194; refine hI.out.mono ?_; rintro e w' ⟨⟨r, rfl, hr⟩, hb⟩; have HR := Lib.hid hr; clear hr)
  go_ret
  exact ⟨by rw [← HR.out]; rfl, hb⟩

set_option maxHeartbeats 400000 in
theorem IndexFunc_Rewrite (p : tRewrite → Bool) (g : Nat) (lb : Array Value) (A : Option Addr) (c : Nat) (xs : List tRewrite) (w : World) (h : Sl eRewrite w (Old w) A c xs)
    (eg : ∀ args w, (callFunc g args).run Try.prog w = .ok (.enter g args) w) (hp : ∀ W x es, x ∈ xs → Below w.heap.size w W → eRewrite.R W (Old W) es x → Calls Try.prog g (#[.agg es.toArray] ++ lb) W fun e w' => e = .returned (.bool (p x)) ∧ Below W.heap.size W w') :
    Calls Try.prog 182 #[.slice A xs.length c, .func (.func g) #[] lb] w fun e w' => (∃ r : Int, e = .returned (.int .i64 r) ∧ decide (0 ≤ r) = xs.any p) ∧ Below w.heap.size w w' := by
  have hlen := h.len
  have H := Lib.hid h; clear h
  have HP := Lib.hid hp; clear hp
  go_enter Try.func182, Try.ntmps182
  go_wp2
  go_loopg [5, 8] xs.length (fun gg _ s8 wr => ∃ k : Nat, k ≤ xs.length ∧ xs.length - k ≤ gg ∧ s8 = .int .i64 k ∧ Hid (Below w.heap.size w wr) ∧ Hid ((xs.take k).any p = false))
  case atStart => exact ⟨0, Nat.zero_le _, by omega, rfl, Below.refl _ w, rfl⟩
  case round =>
    obtain ⟨k, hk, hg, rfl, BW, HN⟩ := hrel
    by_cases hlt : k < xs.length
    · have hltz : (k : Int) < (xs.length : Int) := by omega
      obtain ⟨b, off, es, rfl, hb, hR, hc⟩ := H.out.at hlt
      have hcall := HP.out wr xs[k] _ (List.getElem_mem hlt) BW.out (eRewrite.on hR BW.out)
      obtain ⟨Aq0, cq0, Aq1, cq1, rfl, gq0, gq1⟩ := shape_Rewrite hR
      have d0 : wr.cell? ⟨b, off + k * 2, none⟩ = some (.slice Aq0 xs[k].1.length cq0) := (below_olds BW.out _ hb).trans (hc 0 _ rfl)
      have d1 : wr.cell? ⟨b, off + k * 2 + 1, none⟩ = some (.slice Aq1 xs[k].2.length cq1) := (below_olds BW.out _ hb).trans (hc 1 _ rfl)
      clear hc gq0 gq1
      try clear hR
      have HQ1 : Hid (p xs[k] = true → xs.any p = true) := any_hit hlt
      have HQ0 : Hid (p xs[k] = false → (xs.take (k + 1)).any p = false) := any_step hlt HN.out
      generalize xs[k] = y at d0 d1 hcall HQ1 HQ0
      cases hq : p y with
      | true =>
        rw [hq] at hcall
        have HQ := Lib.hid (HQ1.out hq); clear hq HQ1 HQ0
        go_wp2_with (go_at_fn g; refine hcall.mono ?_; rintro e w' ⟨rfl, hb'⟩)
        go_ret
        exact ⟨⟨k, rfl, by rw [HQ.out]; simp⟩, below_trans BW.out hb'⟩
      | false =>
        rw [hq] at hcall
        have HQ := Lib.hid (HQ0.out hq); clear hq HQ1 HQ0
        go_wp2_with (go_at_fn g; refine hcall.mono ?_; rintro e w' ⟨rfl, hb'⟩)
        go_roundg (xs.length - (k + 1))
        case measure => omega
        case rel => exact ⟨k + 1, by omega, by omega, by go_num, below_trans BW.out hb', HQ.out⟩
    · have hltz : ¬ (k : Int) < (xs.length : Int) := by omega
      obtain rfl : k = xs.length := by omega
      go_wp2
      go_ret
      refine ⟨⟨-1, rfl, ?_⟩, BW.out⟩
      have := HN.out
      rw [List.take_length] at this
      rw [this]; rfl

theorem ContainsFunc_Rewrite (p : tRewrite → Bool) (g : Nat) (lb : Array Value) (A : Option Addr) (c : Nat) (xs : List tRewrite) (w : World) (h : Sl eRewrite w (Old w) A c xs)
    (eg : ∀ args w, (callFunc g args).run Try.prog w = .ok (.enter g args) w) (hp : ∀ W x es, x ∈ xs → Below w.heap.size w W → eRewrite.R W (Old W) es x → Calls Try.prog g (#[.agg es.toArray] ++ lb) W fun e w' => e = .returned (.bool (p x)) ∧ Below W.heap.size W w') :
    Calls Try.prog 145 #[.slice A xs.length c, .func (.func g) #[] lb] w fun e w' => e = .returned (.bool (xs.any p)) ∧ Below w.heap.size w w' := by
  have hI := Lib.hid (IndexFunc_Rewrite p g lb A c xs w h eg hp); clear h hp eg
  go_enter Try.func145, Try.ntmps145
  go_wp2_with (go_at_call 182; refine hI.out.mono ?_; rintro e w' ⟨⟨r, rfl, hr⟩, hb⟩; have HR := Lib.hid hr; clear hr)
  go_ret
  exact ⟨by rw [← HR.out]; rfl, hb⟩

def costL {α : Type} (f : α → Nat) (xs : List α) : Nat := xs.length + (xs.map f).sum

theorem costL_take {α : Type} (f : α → Nat) (xs : List α) (k : Nat) (h : k < xs.length) : ((xs.take (k + 1)).map f).sum = ((xs.take k).map f).sum + f xs[k] := by
  rw [List.take_succ_eq_append_getElem h, List.map_append, List.sum_append]; simp only [List.map_cons, List.map_nil, List.sum_cons, List.sum_nil, Nat.add_zero]

theorem cost_le {α : Type} (f : α → Nat) (xs : List α) (k : Nat) : ((xs.take k).map f).sum ≤ (xs.map f).sum := by
  have h : (xs.map f).sum = ((xs.take k).map f).sum + ((xs.drop k).map f).sum := by
    rw [← List.sum_append, ← List.map_append, List.take_append_drop]
  omega

/-- What the size functions of the laws answer. -/
def left (l : Int) (n : Nat) : Int := if l - n < 0 then -1 else l - n

theorem left_neg {l : Int} {n : Nat} (h : l - n < 0) : left l n = -1 := if_pos h

theorem left_pos {l : Int} {n : Nat} (h : ¬ l - n < 0) : left l n = l - n := if_neg h

def cost_L (xs : List Int) : Nat := xs.length

def cost_Rewrite (x : tRewrite) : Nat := cost_L x.1 + cost_L x.2

def cost_SRewrite (xs : List tRewrite) : Nat := costL cost_Rewrite xs

theorem sz_Int64S (A : Option Addr) (c : Nat) (xs : List Int) (l : Int) (w : World) (h : Sl eInt w (Old w) A c xs) (h0 : 0 ≤ l) (h1 : l ≤ 1048576) :
    Calls Try.prog 119 #[.slice A xs.length c, .int .i64 l] w fun e w' => e = .returned (.int .i64 (left l (cost_L xs))) ∧ Below w.heap.size w w' := by
  have hlen := h.len
  clear h
  unfold cost_L
  by_cases hl : l - xs.length < 0
  · rw [left_neg hl]
    go_enter Try.func119, Try.ntmps119
    go_wp2
    go_ret
    exact ⟨rfl, Below.refl _ _⟩
  · rw [left_pos hl]
    go_enter Try.func119, Try.ntmps119
    go_wp2
    go_ret
    exact ⟨rfl, Below.refl _ _⟩

set_option maxHeartbeats 1000000 in
theorem sz_Rewrite (es : List Value) (x : tRewrite) (l : Int) (w : World) (h : eRewrite.R w (Old w) es x) (h0 : 0 ≤ l) (h1 : l ≤ 1048576) :
    Calls Try.prog 74 #[.agg es.toArray, .int .i64 l] w fun e w' => e = .returned (.int .i64 (left l (cost_Rewrite x))) ∧ Below w.heap.size w w' := by
  obtain ⟨A0, c0, A1, c1, rfl, g0, g1⟩ := shape_Rewrite h
  have HT : Hid (cost_Rewrite x = cost_L x.1 + cost_L x.2) := rfl
  have HB0 := Lib.hid ((Below.refl w.heap.size w).alloc (Nat.le_refl _) (.cells #[.slice A0 x.1.length c0, .slice A1 x.2.length c1] 102))
  have K0 := Lib.hid (g0.on HB0.out); clear g0
  have K1 := Lib.hid (g1.on HB0.out); clear g1
  by_cases t0 : l - (cost_L x.1 : Nat) < 0
  · rw [left_neg (by rw [HT.out]; omega)]
    go_enter Try.func74, Try.ntmps74
    go_wp2_with fail
    refine (sz_Int64S _ _ x.1 _ _ K0.out (by omega) (by omega)).mono ?_
    rintro e w1 ⟨rfl, hb⟩
    rw [left_neg (by omega)]
    have HB1 := Lib.hid hb
    clear hb
    obtain ⟨hc, hf⟩ := bcell HB1.out
    go_wp2
    go_ret
    exact ⟨rfl, HB0.out.trans (HB1.out.mono HB0.out.size)⟩
  by_cases t1 : l - (cost_L x.1 : Nat) - (cost_L x.2 : Nat) < 0
  · rw [left_neg (by rw [HT.out]; omega)]
    go_enter Try.func74, Try.ntmps74
    go_wp2_with fail
    refine (sz_Int64S _ _ x.1 _ _ K0.out (by omega) (by omega)).mono ?_
    rintro e w1 ⟨rfl, hb⟩
    rw [left_pos (by omega)]
    have HB1 := Lib.hid hb
    clear hb
    obtain ⟨hc, hf⟩ := bcell HB1.out
    go_wp2_with fail
    refine (sz_Int64S _ _ x.2 _ _ (K1.out.on HB1.out) (by omega) (by omega)).mono ?_
    rintro e w2 ⟨rfl, hb⟩
    rw [left_neg (by omega)]
    have HB2 := Lib.hid (below_trans HB1.out hb)
    clear hb
    obtain ⟨hc, hf⟩ := bcell HB2.out
    go_wp2
    go_ret
    exact ⟨rfl, HB0.out.trans (HB2.out.mono HB0.out.size)⟩
  rw [left_pos (by rw [HT.out]; omega), show l - ((cost_Rewrite x : Nat) : Int) = l - (cost_L x.1 : Nat) - (cost_L x.2 : Nat) from by rw [HT.out]; first | done | omega]
  go_enter Try.func74, Try.ntmps74
  go_wp2_with fail
  refine (sz_Int64S _ _ x.1 _ _ K0.out (by omega) (by omega)).mono ?_
  rintro e w1 ⟨rfl, hb⟩
  rw [left_pos (by omega)]
  have HB1 := Lib.hid hb
  clear hb
  obtain ⟨hc, hf⟩ := bcell HB1.out
  go_wp2_with fail
  refine (sz_Int64S _ _ x.2 _ _ (K1.out.on HB1.out) (by omega) (by omega)).mono ?_
  rintro e w2 ⟨rfl, hb⟩
  rw [left_pos (by omega)]
  have HB2 := Lib.hid (below_trans HB1.out hb)
  clear hb
  obtain ⟨hc, hf⟩ := bcell HB2.out
  go_wp2
  go_ret
  exact ⟨rfl, HB0.out.trans (HB2.out.mono HB0.out.size)⟩

set_option maxHeartbeats 1000000 in
theorem sz_RewriteS (A : Option Addr) (c : Nat) (xs : List tRewrite) (l : Int) (w : World) (h : Sl eRewrite w (Old w) A c xs) (h0 : 0 ≤ l) (h1 : l ≤ 1048576) :
    Calls Try.prog 20 #[.slice A xs.length c, .int .i64 l] w fun e w' => e = .returned (.int .i64 (left l (cost_SRewrite xs))) ∧ Below w.heap.size w w' := by
  have hlen := h.len
  have H := Lib.hid h; clear h
  have HC : Hid (cost_SRewrite xs = xs.length + (xs.map cost_Rewrite).sum) := rfl
  by_cases hl : l - xs.length < 0
  · rw [left_neg (by rw [HC.out]; omega)]
    go_enter Try.func20, Try.ntmps20
    go_wp2
    go_ret
    exact ⟨rfl, Below.refl _ _⟩
  · go_enter Try.func20, Try.ntmps20
    go_wp2
    go_loopw [1, 5] (fun s1 s5 wr => ∃ (k : Nat) (m : Int), k ≤ xs.length ∧ s5 = .int .i64 k ∧ s1 = .int .i64 m ∧ 0 ≤ m ∧ m ≤ 1048576 ∧ Hid (m = l - xs.length - ((xs.take k).map cost_Rewrite).sum) ∧ Hid (Below w.heap.size w wr)) (fun _ s5 _ => xs.length - (intOf s5).toNat)
    case atStart => exact ⟨0, _, Nat.zero_le _, rfl, rfl, by omega, by omega, by show _ = _; simp, Below.refl _ w⟩
    case round =>
      obtain ⟨k, m, hk, rfl, rfl, hm0, hm1, HM, BW⟩ := hrel
      by_cases hlt : k < xs.length
      · have hltz : (k : Int) < (xs.length : Int) := by omega
        obtain ⟨b, off, es, rfl, hb, hR, hc⟩ := H.out.at hlt
        have HS := Lib.hid (costL_take cost_Rewrite xs k hlt)
        have HLE := Lib.hid (cost_le cost_Rewrite xs (k + 1))
        have HC2 : Hid (∀ l, 0 ≤ l → l ≤ 1048576 → Calls Try.prog 74 #[.agg es.toArray, .int .i64 l] wr _) := fun l h0 h1 => sz_Rewrite es xs[k] l wr (eRewrite.on hR BW.out) h0 h1
        obtain ⟨Aq0, cq0, Aq1, cq1, rfl, gq0, gq1⟩ := shape_Rewrite hR
        have d0 : wr.cell? ⟨b, off + k * 2, none⟩ = some (.slice Aq0 xs[k].1.length cq0) := (below_olds BW.out _ hb).trans (hc 0 _ rfl)
        have d1 : wr.cell? ⟨b, off + k * 2 + 1, none⟩ = some (.slice Aq1 xs[k].2.length cq1) := (below_olds BW.out _ hb).trans (hc 1 _ rfl)
        clear hc gq0 gq1
        try clear hR
        generalize xs[k] = y at d0 d1 HC2 HS
        by_cases hz : m - cost_Rewrite y < 0
        · go_wp2_with fail
          refine (HC2.out m hm0 hm1).mono ?_
          rintro e w2 ⟨rfl, hb2⟩
          rw [left_neg (by omega)]
          go_wp2
          go_ret
          exact ⟨by rw [left_neg (by rw [HC.out]; have := HM.out; have := HS.out; have := HLE.out; omega)]; rfl, below_trans BW.out hb2⟩
        · have hz1 : 0 ≤ m - cost_Rewrite y := by omega
          go_wp2_with fail
          refine (HC2.out m hm0 hm1).mono ?_
          rintro e w2 ⟨rfl, hb2⟩
          rw [left_pos (by omega)]
          go_wp2
          go_roundw
          case rel => exact ⟨k + 1, m - cost_Rewrite y, by omega, by go_num, rfl, by omega, by omega, by show _ = _; have := HM.out; have := HS.out; omega, below_trans BW.out hb2⟩
          case measure => simp [intOf]; omega
      · have hltz : ¬ (k : Int) < (xs.length : Int) := by omega
        obtain rfl : k = xs.length := by omega
        go_wp2
        go_ret
        have h2 := HM.out
        rw [List.take_length] at h2
        exact ⟨by rw [left_pos (by rw [HC.out]; omega), HC.out, show l - ((xs.length + (xs.map cost_Rewrite).sum : Nat) : Int) = m from by omega]; rfl, BW.out⟩

def eq_i (x y : Int) : Bool := x == y

def eq_L (x y : List Int) : Bool := eqL eq_i x y

theorem eq_i_refl (x : Int) : eq_i x x = true := by simp [eq_i]

theorem eq_L_refl (x : List Int) : eq_L x x = true := eqL_refl eq_i_refl x

def eq_Rewrite (x y : tRewrite) : Bool := eq_L x.1 y.1 && eq_L x.2 y.2

theorem eq_Rewrite_refl (x : tRewrite) : eq_Rewrite x x = true := by unfold eq_Rewrite; simp [eq_L_refl]

def eq_SRewrite (x y : List tRewrite) : Bool := eqL eq_Rewrite x y

theorem eq_SRewrite_refl (x : List tRewrite) : eq_SRewrite x x = true := eqL_refl eq_Rewrite_refl x

set_option maxRecDepth 100000 in
set_option maxHeartbeats 1000000 in
theorem eq_L_c (A A' : Option Addr) (c c' : Nat) (xs ys : List Int) (w : World) (h : Sl eInt w (Old w) A c xs) (h' : Sl eInt w (Old w) A' c' ys) :
    Calls Try.prog 26 #[.slice A xs.length c, .slice A' ys.length c'] w fun e w' => e = .returned (.bool (eq_L xs ys)) ∧ Below w.heap.size w w' := by
  have hlen := h.len
  have hlen' := h'.len
  unfold eq_L
  by_cases hne : xs.length = ys.length
  · have hne' : ((xs.length : Int) != (ys.length : Int)) = false := by simp [hne]
    have HE := Lib.hid hne; clear hne
    have H := Lib.hid h; clear h
    have H' := Lib.hid h'; clear h'
    go_enter Try.func26, Try.ntmps26
    go_wp2
    clear hne'
    go_loopw [5] (fun s5 wr => ∃ k : Nat, k ≤ xs.length ∧ s5 = .int .i64 k ∧ Hid (Below w.heap.size w wr) ∧ Hid (∀ j (h1 : j < xs.length) (h2 : j < ys.length), j < k → eq_i xs[j] ys[j] = true)) (fun s5 _ => xs.length - (intOf s5).toNat)
    case atStart => exact ⟨0, Nat.zero_le _, rfl, Below.refl _ _, fun j _ _ h => absurd h (Nat.not_lt_zero _)⟩
    case round =>
      obtain ⟨k, hk, rfl, HL, HN⟩ := hrel
      by_cases hlt : k < xs.length
      · have hltz : (k : Int) < (xs.length : Int) := by omega
        have hlt' : k < ys.length := by have := HE.out; omega
        have hltz' : (k : Int) < (ys.length : Int) := by omega
        obtain ⟨bp, offp, esp, rfl, hbp, hR, hc⟩ := H.out.at1 rfl hlt
        obtain ⟨rfl, gp⟩ := hR
        have dp0 : wr.cell? ⟨bp, offp + k, none⟩ = some (.int .i64 xs[k]) := (below_olds HL.out _ hbp).trans (hc _ rfl)
        clear hc gp
        try clear hR
        obtain ⟨bq, offq, esq, rfl, hbq, hR, hc⟩ := H'.out.at1 rfl hlt'
        obtain ⟨rfl, gq⟩ := hR
        have dq0 : wr.cell? ⟨bq, offq + k, none⟩ = some (.int .i64 ys[k]) := (below_olds HL.out _ hbq).trans (hc _ rfl)
        clear hc gq
        try clear hR
        have HQ0 : Hid (eq_i xs[k] ys[k] = false → eqL eq_i xs ys = false) := eqL_get xs ys k hlt hlt'
        have HQ1 : Hid (eq_i xs[k] ys[k] = true → ∀ j (h1 : j < xs.length) (h2 : j < ys.length), j < k + 1 → eq_i xs[j] ys[j] = true) := fun e j h1 h2 hj => by
          by_cases ej : j = k
          · subst ej; exact e
          · exact HN.out j h1 h2 (by omega)
        generalize xs[k] = x at dp0 HQ0 HQ1
        generalize ys[k] = y at dq0 HQ0 HQ1
        cases hq : eq_i x y
        · have hq' : (x != y) = true := by simp [eq_i] at hq; simp [hq]
          go_wp2_with fail
          go_quiet (fail)
          go_wp2
          go_ret
          exact ⟨by rw [HQ0.out hq]; rfl, below_drewN HL.out _⟩
        · have hq' : (x != y) = false := by simp [eq_i] at hq; simp [hq]
          go_wp2_with fail
          go_quiet (fail)
          go_wp2
          go_roundw
          case rel => exact ⟨k + 1, by omega, by go_num, below_drewN HL.out _, HQ1.out hq⟩
          case measure => simp [intOf]; omega
      · have hltz : ¬ (k : Int) < (xs.length : Int) := by omega
        obtain rfl : k = xs.length := by omega
        go_wp2
        go_ret
        exact ⟨by rw [eqL_all xs ys HE.out fun j h1 h2 => HN.out j h1 h2 h1]; rfl, HL.out⟩
  · have hne' : ((xs.length : Int) != (ys.length : Int)) = true := by simp; omega
    rw [eqL_len xs ys hne]
    clear h h' hne
    go_enter Try.func26, Try.ntmps26
    go_wp2
    go_ret
    exact ⟨rfl, Below.refl _ _⟩

set_option maxHeartbeats 1000000 in
theorem eq_Rewrite_c (es es' : List Value) (x y : tRewrite) (w : World) (h : eRewrite.R w (Old w) es x) (h' : eRewrite.R w (Old w) es' y) :
    Calls Try.prog 82 #[.agg es.toArray, .agg es'.toArray] w fun e w' => e = .returned (.bool (eq_Rewrite x y)) ∧ Below w.heap.size w w' := by
  obtain ⟨Ax0, cx0, Ax1, cx1, rfl, gx0, gx1⟩ := shape_Rewrite h
  obtain ⟨Ay0, cy0, Ay1, cy1, rfl, gy0, gy1⟩ := shape_Rewrite h'
  have HB0 := Lib.hid (((Below.refl w.heap.size w).alloc (Nat.le_refl _) (.cells #[.slice Ax0 x.1.length cx0, .slice Ax1 x.2.length cx1] 105)).alloc (by simp) (.cells #[.slice Ay0 y.1.length cy0, .slice Ay1 y.2.length cy1] 105))
  have HX0 := Lib.hid (gx0.on HB0.out); clear gx0
  have HY0 := Lib.hid (gy0.on HB0.out); clear gy0
  have HX1 := Lib.hid (gx1.on HB0.out); clear gx1
  have HY1 := Lib.hid (gy1.on HB0.out); clear gy1
  cases t0 : eq_L x.1 y.1
  · rw [show eq_Rewrite x y = false from by unfold eq_Rewrite; simp [t0]]
    go_enter Try.func82, Try.ntmps82
    go_wp2_with fail
    refine (eq_L_c _ _ _ _ x.1 y.1 _ HX0.out HY0.out).mono ?_
    rintro e w1 ⟨rfl, hb⟩
    rw [t0]
    have HB1 := Lib.hid hb
    clear hb
    obtain ⟨hc, hf⟩ := bcell HB1.out
    go_wp2
    go_ret
    exact ⟨rfl, below_trans HB0.out HB1.out⟩
  cases t1 : eq_L x.2 y.2
  · rw [show eq_Rewrite x y = false from by unfold eq_Rewrite; simp [t0, t1]]
    go_enter Try.func82, Try.ntmps82
    go_wp2_with fail
    refine (eq_L_c _ _ _ _ x.1 y.1 _ HX0.out HY0.out).mono ?_
    rintro e w1 ⟨rfl, hb⟩
    rw [t0]
    have HB1 := Lib.hid hb
    clear hb
    obtain ⟨hc, hf⟩ := bcell HB1.out
    go_wp2_with fail
    refine (eq_L_c _ _ _ _ x.2 y.2 _ (HX1.out.on HB1.out) (HY1.out.on HB1.out)).mono ?_
    rintro e w2 ⟨rfl, hb⟩
    rw [t1]
    have HB2 := Lib.hid (below_trans HB1.out hb)
    clear hb
    obtain ⟨hc, hf⟩ := bcell HB2.out
    go_wp2
    go_ret
    exact ⟨rfl, below_trans HB0.out HB2.out⟩
  rw [show eq_Rewrite x y = true from by unfold eq_Rewrite; simp [t0, t1]]
  go_enter Try.func82, Try.ntmps82
  go_wp2_with fail
  refine (eq_L_c _ _ _ _ x.1 y.1 _ HX0.out HY0.out).mono ?_
  rintro e w1 ⟨rfl, hb⟩
  rw [t0]
  have HB1 := Lib.hid hb
  clear hb
  obtain ⟨hc, hf⟩ := bcell HB1.out
  go_wp2_with fail
  refine (eq_L_c _ _ _ _ x.2 y.2 _ (HX1.out.on HB1.out) (HY1.out.on HB1.out)).mono ?_
  rintro e w2 ⟨rfl, hb⟩
  rw [t1]
  have HB2 := Lib.hid (below_trans HB1.out hb)
  clear hb
  obtain ⟨hc, hf⟩ := bcell HB2.out
  go_wp2
  go_ret
  exact ⟨rfl, below_trans HB0.out HB2.out⟩

set_option maxRecDepth 100000 in
set_option maxHeartbeats 1000000 in
theorem eq_SRewrite_c (A A' : Option Addr) (c c' : Nat) (xs ys : List tRewrite) (w : World) (h : Sl eRewrite w (Old w) A c xs) (h' : Sl eRewrite w (Old w) A' c' ys) :
    Calls Try.prog 25 #[.slice A xs.length c, .slice A' ys.length c'] w fun e w' => e = .returned (.bool (eq_SRewrite xs ys)) ∧ Below w.heap.size w w' := by
  have hlen := h.len
  have hlen' := h'.len
  unfold eq_SRewrite
  by_cases hne : xs.length = ys.length
  · have hne' : ((xs.length : Int) != (ys.length : Int)) = false := by simp [hne]
    have HE := Lib.hid hne; clear hne
    have H := Lib.hid h; clear h
    have H' := Lib.hid h'; clear h'
    go_enter Try.func25, Try.ntmps25
    go_wp2
    clear hne'
    go_loopw [5] (fun s5 wr => ∃ k : Nat, k ≤ xs.length ∧ s5 = .int .i64 k ∧ Hid (Below w.heap.size w wr) ∧ Hid (∀ j (h1 : j < xs.length) (h2 : j < ys.length), j < k → eq_Rewrite xs[j] ys[j] = true)) (fun s5 _ => xs.length - (intOf s5).toNat)
    case atStart => exact ⟨0, Nat.zero_le _, rfl, Below.refl _ _, fun j _ _ h => absurd h (Nat.not_lt_zero _)⟩
    case round =>
      obtain ⟨k, hk, rfl, HL, HN⟩ := hrel
      by_cases hlt : k < xs.length
      · have hltz : (k : Int) < (xs.length : Int) := by omega
        have hlt' : k < ys.length := by have := HE.out; omega
        have hltz' : (k : Int) < (ys.length : Int) := by omega
        obtain ⟨bp, offp, esp, rfl, hbp, hR, hc⟩ := H.out.at hlt
        have HRp := Lib.hid (eRewrite.on hR HL.out)
        obtain ⟨Ap0, cp0, Ap1, cp1, rfl, gp0, gp1⟩ := shape_Rewrite hR
        have dp0 : wr.cell? ⟨bp, offp + k * 2, none⟩ = some (.slice Ap0 xs[k].1.length cp0) := (below_olds HL.out _ hbp).trans (hc 0 _ rfl)
        have dp1 : wr.cell? ⟨bp, offp + k * 2 + 1, none⟩ = some (.slice Ap1 xs[k].2.length cp1) := (below_olds HL.out _ hbp).trans (hc 1 _ rfl)
        clear hc gp0 gp1
        try clear hR
        obtain ⟨bq, offq, esq, rfl, hbq, hR, hc⟩ := H'.out.at hlt'
        have HRq := Lib.hid (eRewrite.on hR HL.out)
        obtain ⟨Aq0, cq0, Aq1, cq1, rfl, gq0, gq1⟩ := shape_Rewrite hR
        have dq0 : wr.cell? ⟨bq, offq + k * 2, none⟩ = some (.slice Aq0 ys[k].1.length cq0) := (below_olds HL.out _ hbq).trans (hc 0 _ rfl)
        have dq1 : wr.cell? ⟨bq, offq + k * 2 + 1, none⟩ = some (.slice Aq1 ys[k].2.length cq1) := (below_olds HL.out _ hbq).trans (hc 1 _ rfl)
        clear hc gq0 gq1
        try clear hR
        have HQ0 : Hid (eq_Rewrite xs[k] ys[k] = false → eqL eq_Rewrite xs ys = false) := eqL_get xs ys k hlt hlt'
        have HQ1 : Hid (eq_Rewrite xs[k] ys[k] = true → ∀ j (h1 : j < xs.length) (h2 : j < ys.length), j < k + 1 → eq_Rewrite xs[j] ys[j] = true) := fun e j h1 h2 hj => by
          by_cases ej : j = k
          · subst ej; exact e
          · exact HN.out j h1 h2 (by omega)
        generalize xs[k] = x at dp0 dp1 HRp HQ0 HQ1
        generalize ys[k] = y at dq0 dq1 HRq HQ0 HQ1
        go_wp2_with fail
        go_still_tail 8, (by kernel_rfl)
        cases hq : eq_Rewrite x y
        · go_wp2_with fail
          refine (eq_Rewrite_c _ _ x y _ (eRewrite.on HRp.out (Below.refl _ _).drew) (eRewrite.on HRq.out (Below.refl _ _).drew)).mono ?_
          rintro e w2 ⟨rfl, hb2⟩
          rw [hq]
          go_wp2
          go_ret
          exact ⟨by rw [HQ0.out hq]; rfl, HL.out.drew.trans (hb2.mono HL.out.size)⟩
        · go_wp2_with fail
          refine (eq_Rewrite_c _ _ x y _ (eRewrite.on HRp.out (Below.refl _ _).drew) (eRewrite.on HRq.out (Below.refl _ _).drew)).mono ?_
          rintro e w2 ⟨rfl, hb2⟩
          rw [hq]
          go_wp2
          go_roundw
          case rel => exact ⟨k + 1, by omega, by go_num, HL.out.drew.trans (hb2.mono HL.out.size), HQ1.out hq⟩
          case measure => simp [intOf]; omega
      · have hltz : ¬ (k : Int) < (xs.length : Int) := by omega
        obtain rfl : k = xs.length := by omega
        go_wp2
        go_ret
        exact ⟨by rw [eqL_all xs ys HE.out fun j h1 h2 => HN.out j h1 h2 h1]; rfl, HL.out⟩
  · have hne' : ((xs.length : Int) != (ys.length : Int)) = true := by simp; omega
    rw [eqL_len xs ys hne]
    clear h h' hne
    go_enter Try.func25, Try.ntmps25
    go_wp2
    go_ret
    exact ⟨rfl, Below.refl _ _⟩

theorem cost_mem {α : Type} (f : α → Nat) (xs : List α) (k : Nat) (h : k < xs.length) : f xs[k] + xs.length ≤ costL f xs := by
  have h1 := costL_take f xs k h
  have h2 := cost_le f xs (k + 1)
  unfold costL
  omega

theorem info_impl_Int64 : (Try.prog.info? 2).map (fun i => (i.zero, i.size, i.bytes)) = some (some (.int .i64 0), 1, 8) := by kernel_rfl

set_option maxHeartbeats 1000000 in
theorem to_Int64S (A : Option Addr) (c : Nat) (xs : List Int) (w : World) (h : Sl eInt w (Old w) A c xs) (hsm : cost_L xs ≤ 1048576) :
    Calls Try.prog 23 #[.slice A xs.length c] w fun e w' => ∃ A' c', e = .returned (.slice A' xs.length c') ∧ So eInt w' (Fr w w') A' c' xs ∧ Below w.heap.size w w' := by
  obtain ⟨i0, hi0, hz0, hz1, hz2⟩ := info_parts info_impl_Int64
  have hlen := h.len
  have hsl : xs.length ≤ 1048576 := by exact hsm
  have HCO := Lib.hid hsm; clear hsm
  have H := Lib.hid h; clear h
  go_enter Try.func23, Try.ntmps23
  go_wp2_with (at_make; refine wpList_make_full _ rfl _ _ 31 rfl w.heap.size 2 i0 _ 1 Try.underlying31 hi0 hz0 hz1 _ _ _ _ xs.length rfl rfl rfl rfl (by rw [hz2]; omega) (by unfold maxLen; omega) (Nat.le_refl _) ?_)
  intro w1 hown hgrow
  obtain ⟨cur, hB, hs, ht, hn1, hn2⟩ := Blk.of_own hown
  have HB := Lib.hid hB; clear hB
  have HS : Hid (cur.size = xs.length) := by show _ = _; omega
  have hbel : Below w.heap.size w w1 := (Below.refl _ _).grown hgrow (Nat.le_refl _) (by simp)
  have HL := Lib.hid hbel; clear hbel
  clear hs ht hn1 hn2 hgrow hown hi0 hz0 hz1 hz2
  go_wp2_with fail
  go_loopw [4] (fun s4 wr => ∃ (k : Nat) (cur : Array Value), k ≤ xs.length ∧ s4 = .int .i64 k ∧ Hid (Below w.heap.size w wr) ∧ Hid (Blk wr w.heap.size 2 cur) ∧ Hid (cur.size = xs.length) ∧ Hid (Filled eInt wr w.heap.size (fun b => w.heap.size ≤ b) cur k xs)) (fun s4 _ => xs.length - (intOf s4).toNat)
  case atStart => exact ⟨0, cur, Nat.zero_le _, rfl, HL, HB, HS, Filled.zero⟩
  case round =>
    clear HB HS HL
    obtain ⟨k, cur, hk, rfl, HL, HB, HS, HF⟩ := hrel
    by_cases hlt : k < xs.length
    · have hltz : (k : Int) < (xs.length : Int) := by omega
      obtain ⟨b, off, es, rfl, hb, hR, hc⟩ := H.out.at1 rfl hlt
      have HX : Hid (xs[k]? = some xs[k]) := List.getElem?_eq_getElem hlt
      obtain ⟨rfl, gq⟩ := hR
      have d0 : wr.cell? ⟨b, off + k, none⟩ = some (.int .i64 xs[k]) := (below_olds HL.out _ hb).trans (hc _ rfl)
      have HR := Lib.hid gq
      clear hc gq
      try clear hR
      obtain ⟨v0, hv0⟩ : ∃ v, cur[k]? = some v := get_some (by have := HS.out; omega)
      have HV0 := Lib.hid hv0; clear hv0
      generalize xs[k] = y at d0 HX HR
      have e0 : wr.cell? ⟨w.heap.size, k, none⟩ = some v0 := (HB.out.cell _).trans HV0.out
      have f0 := HB.out.frozen (k)
      go_wp2
      go_roundw
      case rel =>
        exact ⟨k + 1, setAll cur k [_], by omega, by go_num, HL.out.setCell (Nat.le_refl _) _, HB.out.set _ _, (size_setAll _ _ _).trans HS.out, by
          have := (HF.out.set k (.int .i64 y)).step (w' := wr.setCell ⟨w.heap.size, k, none⟩ (.int .i64 y)) (T0 := fun _ => False) (es := [.int .i64 y]) (fun _ _ _ => rfl) (Nat.le_refl _) HX.out ⟨rfl, HR.out⟩ (fun _ h => h.elim) (by have := HS.out; show (k + 1) * 1 ≤ _; omega)
          rw [show k * eInt.size = k from Nat.mul_one k] at this
          exact this⟩
      case measure => simp [intOf]; omega
    · have hltz : ¬ (k : Int) < (xs.length : Int) := by omega
      obtain rfl : k = xs.length := by omega
      go_wp2
      go_ret
      exact ⟨_, _, rfl, HF.out.soFr HB.out (Nat.le_refl _) (by unfold maxLen; omega), HL.out⟩

theorem info_impl_Rewrite : (Try.prog.info? 105).map (fun i => (i.zero, i.size, i.bytes)) = some (some (.agg #[.slice none 0 0, .slice none 0 0]), 2, 48) := by kernel_rfl

set_option maxRecDepth 100000 in
set_option maxHeartbeats 2000000 in
theorem to_Rewrite (es : List Value) (x : tRewrite) (w : World) (h : eRewrite.R w (Old w) es x) (hcost : cost_Rewrite x ≤ 1048576) :
    Calls Try.prog 78 #[.agg es.toArray] w fun e w' => ∃ es', e = .returned (.agg es'.toArray) ∧ eRewrite.O w' (Fr w w') es' x ∧ Below w.heap.size w w' := by
  obtain ⟨A0, c0, A1, c1, rfl, g0, g1⟩ := shape_Rewrite h
  have HC : Hid (cost_Rewrite x ≤ 1048576) := hcost
  unfold cost_Rewrite at hcost
  have HB0 : Hid (Below w.heap.size w (((w.alloc (.cells #[.slice A0 x.1.length c0, .slice A1 x.2.length c1] 102)).alloc (.cells #[.slice none 0 0, .slice none 0 0] 105)).alloc (.cells #[.slice none 0 0, .slice none 0 0] 105))) := by show Below _ _ _; go_grown
  have hc0 : cost_L x.1 ≤ 1048576 := by omega
  have HC0 := Lib.hid hc0; clear hc0
  have K0 := Lib.hid g0; clear g0
  have hc1 : cost_L x.2 ≤ 1048576 := by omega
  have HC1 := Lib.hid hc1; clear hc1
  have K1 := Lib.hid g1; clear g1
  clear hcost h
  go_enter Try.func78, Try.ntmps78
  go_wp2_with fail
  refine (to_Int64S _ _ x.1 _ (by exact K0.out.on HB0.out) HC0.out).mono ?_
  rintro e w1 ⟨A0', c0', rfl, hs, hb⟩
  have HS1 := Lib.hid hs; clear hs
  have BL1 := Lib.hid (HB0.out.trans (hb.mono HB0.out.size))
  have HBW1 := Lib.hid hb; clear hb
  have HX := Lib.hid ((((Blk.new w 102 #[.slice A0 x.1.length c0, .slice A1 x.2.length c1]).alloc _).alloc _).on HBW1.out)
  have HR := Lib.hid (((Blk.new1 w _ 105 #[.slice none 0 0, .slice none 0 0]).alloc _).on HBW1.out)
  have HO : Hid (Blk w1 (w.heap.size + 1 + 1) 105 #[.slice none 0 0, .slice none 0 0]) := (Blk.new2 w _ _ 105 #[.slice none 0 0, .slice none 0 0]).on HBW1.out
  have x0 : w1.cell? ⟨w.heap.size, 0, none⟩ = some (.slice A0 x.1.length c0) := HX.out.cell 0
  have o0 : w1.cell? ⟨w.heap.size + 1 + 1, 0, none⟩ = some (.slice none 0 0) := HO.out.cell 0
  have r0 : w1.cell? ⟨w.heap.size + 1, 0, none⟩ = some (.slice none 0 0) := HR.out.cell 0
  have p0 : w1.frozen? ⟨w.heap.size + 1 + 1, 0, none⟩ = false := HO.out.frozen 0
  have q0 : w1.frozen? ⟨w.heap.size + 1, 0, none⟩ = false := HR.out.frozen 0
  have x1 : w1.cell? ⟨w.heap.size, 1, none⟩ = some (.slice A1 x.2.length c1) := HX.out.cell 1
  have o1 : w1.cell? ⟨w.heap.size + 1 + 1, 1, none⟩ = some (.slice none 0 0) := HO.out.cell 1
  have r1 : w1.cell? ⟨w.heap.size + 1, 1, none⟩ = some (.slice none 0 0) := HR.out.cell 1
  have p1 : w1.frozen? ⟨w.heap.size + 1 + 1, 1, none⟩ = false := HO.out.frozen 1
  have q1 : w1.frozen? ⟨w.heap.size + 1, 1, none⟩ = false := HR.out.frozen 1
  go_wp2_with fail
  refine (to_Int64S _ _ x.2 _ (by exact K1.out.on (BL1.out.setCell (p := ⟨w.heap.size + 1 + 1, 0, none⟩) (by show w.heap.size ≤ w.heap.size + 1 + 1; omega) _)) HC1.out).mono ?_
  rintro e w2 ⟨A1', c1', rfl, hs, hb⟩
  have HS2 := Lib.hid hs; clear hs
  have BL2 := Lib.hid ((BL1.out.setCell (p := ⟨w.heap.size + 1 + 1, 0, none⟩) (by show w.heap.size ≤ w.heap.size + 1 + 1; omega) _).trans (hb.mono (BL1.out.setCell (p := ⟨w.heap.size + 1 + 1, 0, none⟩) (by show w.heap.size ≤ w.heap.size + 1 + 1; omega) _).size))
  have HBW2 := Lib.hid hb; clear hb
  have HX' := Lib.hid ((HX.out.far (p := ⟨w.heap.size + 1 + 1, 0, none⟩) (by show w.heap.size ≠ w.heap.size + 1 + 1; omega) _).on HBW2.out); clear HX; have HX := HX'; clear HX'
  have HR' := Lib.hid ((HR.out.far (p := ⟨w.heap.size + 1 + 1, 0, none⟩) (by show w.heap.size + 1 ≠ w.heap.size + 1 + 1; omega) _).on HBW2.out); clear HR; have HR := HR'; clear HR'
  have HO' : Hid (Blk w2 (w.heap.size + 1 + 1) 105 #[.slice A0' x.1.length c0', .slice none 0 0]) := (HO.out.set _ _).on HBW2.out; clear HO; have HO := HO'; clear HO'
  clear x0 o0 r0 p0 q0 x1 o1 r1 p1 q1
  have x0 : w2.cell? ⟨w.heap.size, 0, none⟩ = some (.slice A0 x.1.length c0) := HX.out.cell 0
  have o0 : w2.cell? ⟨w.heap.size + 1 + 1, 0, none⟩ = some (.slice A0' x.1.length c0') := HO.out.cell 0
  have r0 : w2.cell? ⟨w.heap.size + 1, 0, none⟩ = some (.slice none 0 0) := HR.out.cell 0
  have p0 : w2.frozen? ⟨w.heap.size + 1 + 1, 0, none⟩ = false := HO.out.frozen 0
  have q0 : w2.frozen? ⟨w.heap.size + 1, 0, none⟩ = false := HR.out.frozen 0
  have x1 : w2.cell? ⟨w.heap.size, 1, none⟩ = some (.slice A1 x.2.length c1) := HX.out.cell 1
  have o1 : w2.cell? ⟨w.heap.size + 1 + 1, 1, none⟩ = some (.slice none 0 0) := HO.out.cell 1
  have r1 : w2.cell? ⟨w.heap.size + 1, 1, none⟩ = some (.slice none 0 0) := HR.out.cell 1
  have p1 : w2.frozen? ⟨w.heap.size + 1 + 1, 1, none⟩ = false := HO.out.frozen 1
  have q1 : w2.frozen? ⟨w.heap.size + 1, 1, none⟩ = false := HR.out.frozen 1
  go_wp2
  have hE : Blk (((w2.setCell ⟨w.heap.size + 1 + 1, 1, none⟩ (.slice A1' x.2.length c1')).setCell ⟨w.heap.size + 1, 0, none⟩ (.slice A0' x.1.length c0')).setCell ⟨w.heap.size + 1, 1, none⟩ (.slice A1' x.2.length c1')) (w.heap.size + 1) 105 #[.slice A0' x.1.length c0', .slice A1' x.2.length c1'] := (((HR.out.far (p := ⟨w.heap.size + 1 + 1, 1, none⟩) (by show w.heap.size + 1 ≠ w.heap.size + 1 + 1; omega) _).set _ _).set _ _)
  have e0 : (((w2.setCell ⟨w.heap.size + 1 + 1, 1, none⟩ (.slice A1' x.2.length c1')).setCell ⟨w.heap.size + 1, 0, none⟩ (.slice A0' x.1.length c0')).setCell ⟨w.heap.size + 1, 1, none⟩ (.slice A1' x.2.length c1')).cell? ⟨w.heap.size + 1, 0, none⟩ = some (.slice A0' x.1.length c0') := hE.cell 0
  have e1 : (((w2.setCell ⟨w.heap.size + 1 + 1, 1, none⟩ (.slice A1' x.2.length c1')).setCell ⟨w.heap.size + 1, 0, none⟩ (.slice A0' x.1.length c0')).setCell ⟨w.heap.size + 1, 1, none⟩ (.slice A1' x.2.length c1')).cell? ⟨w.heap.size + 1, 1, none⟩ = some (.slice A1' x.2.length c1') := hE.cell 1
  refine bodyPost_ret (v := .agg #[.slice A0' x.1.length c0', .slice A1' x.2.length c1']) (by simp [results, Try.results78, go_sem, e0, e1]) rfl ?_
  have t1 : w.heap.size + 3 ≤ w1.heap.size := by have h1 := HBW1.out.size; simp only [World.size_alloc] at h1; omega
  have t2 : w.heap.size + 3 ≤ w2.heap.size := by have h1 := HBW1.out.size; simp only [World.size_alloc] at h1; have h2 := HBW2.out.size; simp only [World.size_setCell] at h2; omega
  refine ⟨[.slice A0' x.1.length c0', .slice A1' x.2.length c1'], rfl, ?_, ?_⟩
  · have sE1 : So eInt (((w2.setCell ⟨w.heap.size + 1 + 1, 1, none⟩ (.slice A1' x.2.length c1')).setCell ⟨w.heap.size + 1, 0, none⟩ (.slice A0' x.1.length c0')).setCell ⟨w.heap.size + 1, 1, none⟩ (.slice A1' x.2.length c1')) (Iv w.heap.size w1.heap.size) _ _ x.1 := (HS1.out.keep (w' := (((w2.setCell ⟨w.heap.size + 1 + 1, 1, none⟩ (.slice A1' x.2.length c1')).setCell ⟨w.heap.size + 1, 0, none⟩ (.slice A0' x.1.length c0')).setCell ⟨w.heap.size + 1, 1, none⟩ (.slice A1' x.2.length c1'))) fun b hb => ((((((Lat.refl (w.heap.size + 3) w1).set (p := ⟨w.heap.size + 1 + 1, 0, none⟩) (by show w.heap.size + 1 + 1 < _; omega)).below HBW2.out).set (p := ⟨w.heap.size + 1 + 1, 1, none⟩) (by show w.heap.size + 1 + 1 < _; omega)).set (p := ⟨w.heap.size + 1, 0, none⟩) (by show w.heap.size + 1 < _; omega)).set (p := ⟨w.heap.size + 1, 1, none⟩) (by show w.heap.size + 1 < _; omega)).block b (by have h1 := hb.1; simp only [World.size_alloc, World.size_setCell] at h1; omega) hb.2).more (Iv.mono (by simp only [World.size_alloc]; omega) (by omega))
    have u2 : w1.heap.size ≤ w2.heap.size := by have := HBW2.out.size; simp only [World.size_setCell] at this; omega
    have sE2 : So eInt (((w2.setCell ⟨w.heap.size + 1 + 1, 1, none⟩ (.slice A1' x.2.length c1')).setCell ⟨w.heap.size + 1, 0, none⟩ (.slice A0' x.1.length c0')).setCell ⟨w.heap.size + 1, 1, none⟩ (.slice A1' x.2.length c1')) (Iv w1.heap.size (((w2.setCell ⟨w.heap.size + 1 + 1, 1, none⟩ (.slice A1' x.2.length c1')).setCell ⟨w.heap.size + 1, 0, none⟩ (.slice A0' x.1.length c0')).setCell ⟨w.heap.size + 1, 1, none⟩ (.slice A1' x.2.length c1')).heap.size) _ _ x.2 := (HS2.out.keep (w' := (((w2.setCell ⟨w.heap.size + 1 + 1, 1, none⟩ (.slice A1' x.2.length c1')).setCell ⟨w.heap.size + 1, 0, none⟩ (.slice A0' x.1.length c0')).setCell ⟨w.heap.size + 1, 1, none⟩ (.slice A1' x.2.length c1'))) fun b hb => ((((Lat.refl (w.heap.size + 3) w2).set (p := ⟨w.heap.size + 1 + 1, 1, none⟩) (by show w.heap.size + 1 + 1 < _; omega)).set (p := ⟨w.heap.size + 1, 0, none⟩) (by show w.heap.size + 1 < _; omega)).set (p := ⟨w.heap.size + 1, 1, none⟩) (by show w.heap.size + 1 < _; omega)).block b (by have h1 := hb.1; simp only [World.size_alloc, World.size_setCell] at h1; omega) hb.2).more (Iv.mono (by simp only [World.size_setCell]; omega) (by simp only [World.size_setCell]; omega))
    exact (oPr (l := w.heap.size) (m := w1.heap.size) (oSl sE1) (oSl sE2) (by omega) (by first | omega | (simp only [World.size_setCell]; omega)))
  · exact (((BL2.out.setCell (p := ⟨w.heap.size + 1 + 1, 1, none⟩) (by show w.heap.size ≤ w.heap.size + 1 + 1; omega) _).setCell (p := ⟨w.heap.size + 1, 0, none⟩) (by show w.heap.size ≤ w.heap.size + 1; omega) _).setCell (p := ⟨w.heap.size + 1, 1, none⟩) (by show w.heap.size ≤ w.heap.size + 1; omega) _)

set_option maxHeartbeats 1000000 in
theorem to_RewriteS (A : Option Addr) (c : Nat) (xs : List tRewrite) (w : World) (h : Sl eRewrite w (Old w) A c xs) (hsm : cost_SRewrite xs ≤ 1048576) :
    Calls Try.prog 22 #[.slice A xs.length c] w fun e w' => ∃ A' c', e = .returned (.slice A' xs.length c') ∧ So eRewrite w' (Fr w w') A' c' xs ∧ Below w.heap.size w w' := by
  obtain ⟨i0, hi0, hz0, hz1, hz2⟩ := info_parts info_impl_Rewrite
  have hlen := h.len
  have hsl : xs.length ≤ 1048576 := by have : cost_SRewrite xs = costL cost_Rewrite xs := rfl; unfold costL at this; omega
  have HCO := Lib.hid hsm; clear hsm
  have H := Lib.hid h; clear h
  go_enter Try.func22, Try.ntmps22
  go_wp2_with (at_make; refine wpList_make_full _ rfl _ _ 34 rfl w.heap.size 105 i0 _ 2 Try.underlying34 hi0 hz0 hz1 _ _ _ _ xs.length rfl rfl rfl rfl (by rw [hz2]; omega) (by unfold maxLen; omega) (Nat.le_refl _) ?_)
  intro w1 hown hgrow
  obtain ⟨cur, hB, hs, ht, hn1, hn2⟩ := Blk.of_own hown
  have HB := Lib.hid hB; clear hB
  have HS : Hid (cur.size = xs.length * 2) := by show _ = _; omega
  have hbel : Below w.heap.size w w1 := (Below.refl _ _).grown hgrow (Nat.le_refl _) (by simp)
  have HL := Lib.hid hbel; clear hbel
  clear hs ht hn1 hn2 hgrow hown hi0 hz0 hz1 hz2
  go_wp2_with fail
  go_loopw [4] (fun s4 wr => ∃ (k : Nat) (cur : Array Value), k ≤ xs.length ∧ s4 = .int .i64 k ∧ Hid (Below w.heap.size w wr) ∧ Hid (Blk wr w.heap.size 105 cur) ∧ Hid (cur.size = xs.length * 2) ∧ Hid (Filled eRewrite wr w.heap.size (fun b => w.heap.size ≤ b) cur k xs)) (fun s4 _ => xs.length - (intOf s4).toNat)
  case atStart => exact ⟨0, cur, Nat.zero_le _, rfl, HL, HB, HS, Filled.zero⟩
  case round =>
    clear HB HS HL
    obtain ⟨k, cur, hk, rfl, HL, HB, HS, HF⟩ := hrel
    by_cases hlt : k < xs.length
    · have hltz : (k : Int) < (xs.length : Int) := by omega
      obtain ⟨b, off, es, rfl, hb, hR, hc⟩ := H.out.at hlt
      have HX : Hid (xs[k]? = some xs[k]) := List.getElem?_eq_getElem hlt
      have HR := Lib.hid (eRewrite.on hR HL.out)
      have HCS : Hid (cost_Rewrite xs[k] ≤ 1048576) := by have h1 := cost_mem cost_Rewrite xs k hlt; have h2 : cost_SRewrite xs = costL cost_Rewrite xs := rfl; have := HCO.out; show _ ≤ _; omega
      obtain ⟨Aq0, cq0, Aq1, cq1, rfl, gq0, gq1⟩ := shape_Rewrite hR
      have d0 : wr.cell? ⟨b, off + k * 2, none⟩ = some (.slice Aq0 xs[k].1.length cq0) := (below_olds HL.out _ hb).trans (hc 0 _ rfl)
      have d1 : wr.cell? ⟨b, off + k * 2 + 1, none⟩ = some (.slice Aq1 xs[k].2.length cq1) := (below_olds HL.out _ hb).trans (hc 1 _ rfl)
      clear hc gq0 gq1
      try clear hR
      obtain ⟨v0, hv0⟩ : ∃ v, cur[k * 2]? = some v := get_some (by have := HS.out; omega)
      obtain ⟨v1, hv1⟩ : ∃ v, cur[k * 2 + 1]? = some v := get_some (by have := HS.out; omega)
      have HV0 := Lib.hid hv0; clear hv0
      have HV1 := Lib.hid hv1; clear hv1
      generalize xs[k] = y at d0 d1 HX HR HCS
      go_wp2_with fail
      refine (to_Rewrite _ y _ HR.out HCS.out).mono ?_
      rintro e w2 ⟨es2, rfl, ho2, hb2⟩
      have hR2 := eRewrite.read ho2
      have HO2 := Lib.hid ho2; clear ho2
      obtain ⟨Ar0, cr0, Ar1, cr1, rfl, gr0, gr1⟩ := shape_Rewrite hR2
      clear gr0 gr1
      try clear hR2
      have hB2 := HB.out.on hb2
      have e0 : w2.cell? ⟨w.heap.size, k * 2, none⟩ = some v0 := (hB2.cell _).trans HV0.out
      have e1 : w2.cell? ⟨w.heap.size, k * 2 + 1, none⟩ = some v1 := (hB2.cell _).trans HV1.out
      have f0 := hB2.frozen (k * 2)
      have f1 := hB2.frozen (k * 2 + 1)
      have HB2 := Lib.hid hB2; clear hB2
      have HL2 := Lib.hid hb2; clear hb2
      go_wp2
      go_roundw
      case rel =>
        have hL := HL.out
        have hL2 := HL2.out
        have hbs : ∀ b, b ≠ w.heap.size → ∀ W : World, (∀ b, b ≠ w.heap.size → W.heap[b]? = w2.heap[b]?) → W.heap[b]? = w2.heap[b]? := fun b hb W h => h b hb
        have hW : ∀ b, b ≠ w.heap.size → ((w2.setCell ⟨w.heap.size, k * 2, none⟩ (.slice Ar0 y.1.length cr0)).setCell ⟨w.heap.size, k * 2 + 1, none⟩ (.slice Ar1 y.2.length cr1)).heap[b]? = w2.heap[b]? := fun b hb => by
          rw [Below.heap_setCell _ _ _ _ (by exact hb), Below.heap_setCell _ _ _ _ (by exact hb)]
        have hsz : ((w2.setCell ⟨w.heap.size, k * 2, none⟩ (.slice Ar0 y.1.length cr0)).setCell ⟨w.heap.size, k * 2 + 1, none⟩ (.slice Ar1 y.2.length cr1)).heap.size = w2.heap.size := by simp [World.setCell]
        refine ⟨k + 1, setAll cur (k * 2) [.slice Ar0 y.1.length cr0, .slice Ar1 y.2.length cr1], by omega, by go_num, (((hL.trans (hL2.mono hL.size)).setCell (Nat.le_refl _) _).setCell (Nat.le_refl _) _), ((HB2.out.set _ _).set _ _), (size_setAll _ _ _).trans HS.out, ?_⟩
        have hstep := (HF.out).step (w' := (w2.setCell ⟨w.heap.size, k * 2, none⟩ (.slice Ar0 y.1.length cr0)).setCell ⟨w.heap.size, k * 2 + 1, none⟩ (.slice Ar1 y.2.length cr1)) (T0 := Fr wr w2) (es := [.slice Ar0 y.1.length cr0, .slice Ar1 y.2.length cr1]) (fun b hb hlt => (hW b hb).trans (hL2.block b hlt)) (by rw [hsz]; exact hL2.size) HX.out
          (eRewrite.okeep HO2.out fun b hb => hW b (fun e => by have := HB.out.lt; have := hb.1; omega)) (fun b hb => ⟨Nat.le_trans hL.size hb.1, fun e => by have := HB.out.lt; have := hb.1; omega, hb.1, by rw [hsz]; exact hb.2⟩) (by have := HS.out; show (k + 1) * 2 ≤ _; omega)
        exact hstep
      case measure => simp [intOf]; omega
    · have hltz : ¬ (k : Int) < (xs.length : Int) := by omega
      obtain rfl : k = xs.length := by omega
      go_wp2
      go_ret
      exact ⟨_, _, rfl, HF.out.soFr HB.out (Nat.le_refl _) (by unfold maxLen; omega), HL.out⟩

theorem So.take {α : Type} {E : Enc α} {w : World} {S : Nat → Prop} {A : Option Addr} {c : Nat} {xs : List α} (h : So E w S A c xs) (k : Nat) : So E w S A c (xs.take k) :=
  ⟨by have := h.1; rw [List.length_take]; omega, h.2.1, fun hn => by
    obtain ⟨b, off, t, cur, T, hA, hb, hB, hT, hd, hc⟩ := h.2.2 (by rintro rfl; simp at hn)
    refine ⟨b, off, t, cur, T, hA, hb, hB, hT, hd, fun i x hx => hc i x ?_⟩
    rw [List.getElem?_take] at hx
    split at hx
    · exact hx
    · cases hx⟩

theorem Sl.take {α : Type} {E : Enc α} {w : World} {S : Nat → Prop} {A : Option Addr} {c : Nat} {xs : List α} (h : Sl E w S A c xs) (k : Nat) : Sl E w S A c (xs.take k) :=
  ⟨by have := h.1; rw [List.length_take]; omega, h.2.1, fun hn => by
    obtain ⟨b, off, hA, hb, hc⟩ := h.2.2 (by rintro rfl; simp at hn)
    refine ⟨b, off, hA, hb, fun i x hx => hc i x ?_⟩
    rw [List.getElem?_take] at hx
    split at hx
    · exact hx
    · cases hx⟩

theorem So.drop1 {α : Type} {E : Enc α} {w : World} {S : Nat → Prop} {b off : Nat} {c : Nat} {xs : List α} (h : So E w S (some ⟨b, off, none⟩) c xs) (k : Nat) : So E w S (some ⟨b, off + k * E.size, none⟩) (c - k) (xs.drop k) :=
  ⟨by have := h.1; rw [List.length_drop]; omega, by have := h.2.1; omega, fun hn => by
    obtain ⟨b', off', t, cur, T, hA, hb, hB, hT, hd, hc⟩ := h.2.2 (by rintro rfl; simp at hn)
    simp only [Option.some.injEq, Addr.mk.injEq, and_true] at hA
    obtain ⟨rfl, rfl⟩ := hA
    refine ⟨b, _, t, cur, fun i => T (k + i), rfl, hb, hB, fun i => hT _, fun i j m h1 h2 => by have := hd _ _ _ h1 h2; omega, fun i x hx => ?_⟩
    rw [List.getElem?_drop] at hx
    obtain ⟨es, h1, h2⟩ := hc _ x hx
    refine ⟨es, h1, fun j v hv => ?_⟩
    have := h2 j v hv
    rw [Nat.add_mul, ← Nat.add_assoc] at this
    exact this⟩

theorem Sl.drop1 {α : Type} {E : Enc α} {w : World} {S : Nat → Prop} {b off : Nat} {c : Nat} {xs : List α} (h : Sl E w S (some ⟨b, off, none⟩) c xs) (k : Nat) : Sl E w S (some ⟨b, off + k * E.size, none⟩) (c - k) (xs.drop k) :=
  ⟨by have := h.1; rw [List.length_drop]; omega, by have := h.2.1; omega, fun hn => by
    obtain ⟨b', off', hA, hb, hc⟩ := h.2.2 (by rintro rfl; simp at hn)
    simp only [Option.some.injEq, Addr.mk.injEq, and_true] at hA
    obtain ⟨rfl, rfl⟩ := hA
    refine ⟨b, _, rfl, hb, fun i x hx => ?_⟩
    rw [List.getElem?_drop] at hx
    obtain ⟨es, h1, h2⟩ := hc _ x hx
    refine ⟨es, h1, fun j v hv => ?_⟩
    have := h2 j v hv
    rw [Nat.add_mul, ← Nat.add_assoc] at this
    exact this⟩

def evp (L : List (Nat × Value)) : List (Nat × Operand) → Option (List (Nat × Value))
  | [] => some []
  | x :: xs => match ev L x.2, evp L xs with
    | some v, some vs => some ((x.1, v) :: vs)
    | _, _ => none

theorem evp_map {n : Nat} {L : List (Nat × Value)} {a : Act} (hE : Env n L a) : ∀ (xs : List (Nat × Operand)) (vs : List (Nat × Value)), evp L xs = some vs → (xs.map fun p => (p.1, a.eval p.2)) = vs
  | [], vs, h => by simp [evp] at h; subst h; rfl
  | x :: xs, vs, h => by
    simp only [evp] at h
    cases h1 : ev L x.2 with
    | none => simp [h1] at h
    | some v =>
      cases h2 : evp L xs with
      | none => simp [h1, h2] at h
      | some us =>
        simp [h1, h2] at h
        subst h
        rw [List.map_cons, hE.ev h1, evp_map hE xs us h2]

theorem foldl_setAll (off : Nat) : ∀ (vs : List Value) (k : Nat) (cs : Array Value), (vs.zipIdx k).foldl (fun cs (p : Value × Nat) => cs.setIfInBounds (off + p.2) p.1) cs = setAll cs (off + k) vs
  | [], _, _ => rfl
  | v :: vs, k, cs => by
    rw [List.zipIdx_cons, List.foldl_cons, foldl_setAll off vs (k + 1)]
    rfl

theorem setAll_split (pre mid post vs : List Value) (h : mid.length = vs.length) : setAll (pre ++ mid ++ post).toArray pre.length vs = (pre ++ vs ++ post).toArray := by
  apply Array.ext_getElem?
  intro i
  rw [get_setAll _ _ _ _ (by simp; omega)]
  by_cases h1 : pre.length ≤ i ∧ i < pre.length + vs.length
  · rw [if_pos h1]
    simp only [List.getElem?_toArray]
    rw [List.append_assoc, List.getElem?_append_right h1.1, List.getElem?_append_left (by omega)]
  · rw [if_neg h1]
    simp only [List.getElem?_toArray, List.append_assoc]
    by_cases h2 : i < pre.length
    · rw [List.getElem?_append_left h2, List.getElem?_append_left h2]
    · rw [List.getElem?_append_right (by omega), List.getElem?_append_right (by omega), List.getElem?_append_right (by omega), List.getElem?_append_right (by omega), h]

def numb (j : Nat) : List Value → List (Nat × Value)
  | [] => []
  | v :: vs => (j, v) :: numb (j + 1) vs

theorem fill_all (sz : Nat) : ∀ (vs : List Value) (j : Nat) (pre post : List Value), pre.length = j * sz → post.length = vs.length * sz → (∀ v ∈ vs, v.cells.size = sz) → Instr.fill (fun i => some (i * sz, sz)) (pre ++ post).toArray (numb j vs) = some (pre ++ (vs.map fun v => v.cells.toList).flatten).toArray
  | [], j, pre, post, _, h2, _ => by
    have : post = [] := List.eq_nil_of_length_eq_zero (by simpa using h2)
    subst this; simp [numb, Instr.fill]
  | v :: vs, j, pre, post, h1, h2, h3 => by
    have hv := h3 v (by simp)
    rw [List.length_cons, Nat.succ_mul] at h2
    have hsp : post = post.take sz ++ post.drop sz := (List.take_append_drop sz post).symm
    have hl : (post.take sz).length = v.cells.toList.length := by rw [List.length_take]; simp [hv]; omega
    have hset := setAll_split pre (post.take sz) (post.drop sz) v.cells.toList hl
    have ih := fill_all sz vs (j + 1) (pre ++ v.cells.toList) (post.drop sz) (by simp [h1, hv, Nat.succ_mul]) (by rw [List.length_drop]; omega) (fun u hu => h3 u (by simp [hu]))
    have hfold : v.cells.zipIdx.foldl (fun cs (p : Value × Nat) => cs.setIfInBounds (j * sz + p.2) p.1) (pre ++ post).toArray = (pre ++ v.cells.toList ++ post.drop sz).toArray := by
      rw [← Array.foldl_toList, Array.toList_zipIdx, foldl_setAll, Nat.add_zero, ← h1, ← hset, List.append_assoc, ← hsp]
    have hle : ¬ ((pre ++ post).toArray.size < j * sz + sz) := by simp; omega
    have hc : (v.cells.size ≠ sz || decide (j * sz + v.cells.size > (pre ++ post).toArray.size)) = false := by
      rw [hv]; simp; omega
    simp only [numb, Instr.fill]
    rw [if_neg (by rw [hc]; simp)]
    rw [show (v.cells.zipIdx.foldl (fun cs x => match x with | (c, j_1) => cs.setIfInBounds (j * sz + j_1) c) (pre ++ post).toArray) = (pre ++ v.cells.toList ++ post.drop sz).toArray from hfold, ih]
    simp

/-- A slice literal, all of its elements given. -/
theorem run_lit {P : Program} {n m : Nat} {a : Act} {L : List (Nat × Value)} {w : World} {t e : TypeId} {sz by_ : Nat} {ps : List (Nat × Operand)} {vs : List Value} {cs : List Value} {d : Option Tmp} {ty : TypeId} {pos : String} {af : Array Edge} {g : Option (Nat × Bool)} (hT : TSl P t e sz by_) (hE : Env n L a) (he : evp L ps = some (numb 0 vs)) (hm : vs.length = m) (hv : ∀ v ∈ vs, v.cells.size = sz) (hcs : (vs.map fun v => v.cells.toList).flatten = cs) (hb : m * sz ≤ 16777216) :
    (execOp a.eval ⟨d, .buildSlice t m ps.toArray, ty, pos, af, g⟩).run P w = .ok (.value (.slice (some ⟨w.heap.size, 0, none⟩) m m)) (w.alloc (.cells cs.toArray e)) := by
  obtain ⟨i, z, e1, e2, e3, e4, e5⟩ := hT.info
  subst hm hcs
  have hE' := evp_map hE ps _ he
  have hb' : ¬ (vs.length * i.size > 2 ^ 24) := by rw [e3]; omega
  have key : ∀ zero : Array Value, Instr.fill (fun i_1 => some (i_1 * i.size, i.size)) ((Array.range (vs.length * i.size)).map (zero[· % zero.size]!)) (numb 0 vs) = some (vs.map fun v => v.cells.toList).flatten.toArray := by
    intro zero
    have := fill_all sz vs 0 [] ((Array.range (vs.length * i.size)).map (zero[· % zero.size]!)).toList (by simp) (by simp [e3]) hv
    simp only [List.nil_append, Array.toArray_toList] at this
    rw [e3] at this ⊢; exact this
  simp only [execOp, Instr.buildSlice, List.map_toArray, hE', Sem.run_bind, run_underlying hT.under, Result.andThen_ok, sizeOf, typeInfo, run_program, e1, Sem.run_pure, hb', if_false]
  by_cases h0 : vs.length * i.size = 0
  · simp [h0, newRow] at key ⊢
    have := key #[]
    simp at this
    simp [this]
  · simp [h0, zeroValue, typeInfo, e1, e2, newRow, key]

theorem lkI {t : Nat} {L : List (Nat × Value)} {q : IntKind} {x y : Int} (h : lk t L = some (.int q x)) (e : x = y) : lk t L = some (.int q y) := e ▸ h

theorem Held.to {M : Nat → Prop} {w0 : World} {rs rs' : List Res} {w : World} (h : Held M w0 rs w) (e : rs = rs') : Held M w0 rs' w := e ▸ h

theorem Held.flatO {M : Nat → Prop} {w0 : World} {rs : List Res} {w : World} (h : Held M w0 rs w) {α : Type} {E : Enc α} {cs : List Value} {x : α} (ho : ∀ W, E.O W Nob cs x) : Held M w0 (rO E Nob cs x :: rs) w := h.new (Below.refl _ _) (rO E Nob cs x) (ho w) fun _ h => h.elim

theorem tv_parts {P : Program} {t : TypeId} {z : Value} {n : Nat} (h : (P.info? t).map (fun i => (i.zero, i.size)) = some (some z, n)) : ∃ i, P.info? t = some i ∧ i.zero = some z ∧ i.size = n := by
  cases hi : P.info? t with
  | none => rw [hi] at h; cases h
  | some i =>
    rw [hi] at h
    simp only [Option.map_some, Option.some.injEq, Prod.mk.injEq] at h
    exact ⟨i, rfl, h.1, h.2⟩

theorem ts_parts {P : Program} {t : TypeId} {z : Value} {n b : Nat} (h : (P.info? t).map (fun i => (i.zero, i.size, i.bytes)) = some (some z, n, b)) : ∃ i, P.info? t = some i ∧ i.zero = some z ∧ i.size = n ∧ i.bytes = b := by
  cases hi : P.info? t with
  | none => rw [hi] at h; cases h
  | some i =>
    rw [hi] at h
    simp only [Option.map_some, Option.some.injEq, Prod.mk.injEq] at h
    exact ⟨i, rfl, h.1, h.2.1, h.2.2⟩

/-- The address of a slice cut at l. -/
def cutA (A : Option Addr) (c l sz : Nat) : Option Addr := if c = l then A else A.map fun a => a.add (l * sz)

theorem Sl.cutD {α : Type} {E : Enc α} {w : World} {S : Nat → Prop} {A : Option Addr} {c : Nat} {xs : List α} (h : Sl E w S A c xs) (l : Nat) : Sl E w S (cutA A c l E.size) (c - l) (xs.drop l) := by
  unfold cutA
  split
  · next hc =>
    rw [List.drop_eq_nil_of_le (by have := h.1; omega)]
    exact Sl.nil (by have := h.2.1; omega)
  · by_cases hx : xs = []
    · subst hx; rw [List.drop_nil]; exact Sl.nil (by have := h.2.1; omega)
    · obtain ⟨b, off, rfl, _⟩ := h.2.2 hx
      simp only [Option.map_some, add_none]
      exact h.drop1 l

theorem So.cutD {α : Type} {E : Enc α} {w : World} {S : Nat → Prop} {A : Option Addr} {c : Nat} {xs : List α} (h : So E w S A c xs) (l : Nat) : So E w S (cutA A c l E.size) (c - l) (xs.drop l) := by
  unfold cutA
  split
  · next hc =>
    rw [List.drop_eq_nil_of_le (by have := h.1; omega)]
    exact So.nil (by have := h.2.1; omega)
  · by_cases hx : xs = []
    · subst hx; rw [List.drop_nil]; exact So.nil (by have := h.2.1; omega)
    · obtain ⟨b, off, _, _, _, rfl, _⟩ := h.2.2 hx
      simp only [Option.map_some, add_none]
      exact h.drop1 l

theorem x_sliceL {P : Program} {S : World → Prop} {L : List (Nat × Value)} {d : Option Tmp} {x lo : Operand} {t e : TypeId} {sz by_ : Nat} {A : Option Addr} {n c k r : Nat} {m : Int} {q : IntKind} {ty : TypeId} {pos : String} {af : Array Edge} {g : Option (Nat × Bool)} (ht : TSl P t e sz by_) (hx : ev L x = some (.slice A n c)) (hlo : ev L lo = some (.int q m)) (hm : m = (k : Int)) (hk : k ≤ n) (hr : n - k = r) : XS P S L ⟨d, .slice t x (some lo) none none, ty, pos, af, g⟩ (.slice (cutA A c k sz) r (c - k)) := fun _ _ w hE _ => by
  obtain ⟨i, z, h1, _, h2, _⟩ := ht.info
  subst hm h2 hr
  have h3 : (0 : Int) ≤ (k : Int) ∧ (k : Int) ≤ (n : Int) := by omega
  simp [execOp, hE.ev hx, hE.ev hlo, Instr.sliceAt, Instr.slice, run_underlying ht.under, Instr.sliceBounds, Instr.sliceBound, asIntOf, sizeOf, typeInfo, h1, hk, cutA]

theorem x_sliceH {P : Program} {S : World → Prop} {L : List (Nat × Value)} {d : Option Tmp} {x hi : Operand} {t e : TypeId} {sz by_ : Nat} {A : Option Addr} {n c k r : Nat} {m : Int} {q : IntKind} {ty : TypeId} {pos : String} {af : Array Edge} {g : Option (Nat × Bool)} (ht : TSl P t e sz by_) (hx : ev L x = some (.slice A n c)) (hhi : ev L hi = some (.int q m)) (hm : m = (k : Int)) (hk : k ≤ c) (hr : k = r) : XS P S L ⟨d, .slice t x none (some hi) none, ty, pos, af, g⟩ (.slice A r c) := fun _ _ w hE _ => by
  obtain ⟨i, z, h1, _, h2, _⟩ := ht.info
  subst hm h2 hr
  have h3 : (0 : Int) ≤ (k : Int) ∧ (k : Int) ≤ (c : Int) := by omega
  simp [execOp, hE.ev hx, hE.ev hhi, Instr.sliceAt, Instr.slice, run_underlying ht.under, Instr.sliceBounds, Instr.sliceBound, asIntOf, sizeOf, typeInfo, h1, hk]
  intro _
  cases A with
  | none => rfl
  | some a => simp [Addr.add]

theorem x_sliceLH {P : Program} {S : World → Prop} {L : List (Nat × Value)} {d : Option Tmp} {x lo hi : Operand} {t e : TypeId} {sz by_ : Nat} {A : Option Addr} {n c k k2 r : Nat} {m m2 : Int} {q q2 : IntKind} {ty : TypeId} {pos : String} {af : Array Edge} {g : Option (Nat × Bool)} (ht : TSl P t e sz by_) (hx : ev L x = some (.slice A n c)) (hlo : ev L lo = some (.int q m)) (hhi : ev L hi = some (.int q2 m2)) (hm : m = (k : Int)) (hm2 : m2 = (k2 : Int)) (hk : k ≤ k2) (hk2 : k2 ≤ c) (hr : k2 - k = r) : XS P S L ⟨d, .slice t x (some lo) (some hi) none, ty, pos, af, g⟩ (.slice (cutA A c k sz) r (c - k)) := fun _ _ w hE _ => by
  obtain ⟨i, z, h1, _, h2, _⟩ := ht.info
  subst hm hm2 h2 hr
  have h3 : (0 : Int) ≤ (k : Int) ∧ (k : Int) ≤ (k2 : Int) := by omega
  have h4 : (0 : Int) ≤ (k2 : Int) ∧ (k2 : Int) ≤ (c : Int) := by omega
  simp [execOp, hE.ev hx, hE.ev hlo, hE.ev hhi, Instr.sliceAt, Instr.slice, run_underlying ht.under, Instr.sliceBounds, Instr.sliceBound, asIntOf, sizeOf, typeInfo, h1, hk, hk2, cutA]

theorem Env.castI {n t : Nat} {L : List (Nat × Value)} {a : Act} {q : IntKind} {x y : Int} (h : Env n L a) (hl : lk t L = some (.int q x)) (e : x = y) : Env n ((t, .int q y) :: L) a :=
  h.sub' fun s v hv => by
    simp only [lk] at hv
    by_cases hs : Nat.beq s t = true
    · rw [hs] at hv
      have hs' := Nat.eq_of_beq_eq_true hs
      subst hs' e
      simp at hv
      rw [hl, hv]
    · have hs' : Nat.beq s t = false := Bool.eq_false_iff.2 hs
      rw [hs'] at hv; exact hv

/-- A captured variable's cell, as a closure sees it. -/
theorem Held.capB {M : Nat → Prop} {w0 : World} {rs : List Res} {w W : World} {g : Nat} {t : TypeId} {cs : List Value} (h : Held M w0 rs w) (i : Nat) (hi : rs[i]? = some (rBlk g t cs)) (hb : Below w.heap.size w W) : ∀ j v, cs[j]? = some v → W.cell? ⟨g, 0 + j, none⟩ = some v := fun j v hv => by
  have hlt := (h.rng _ (List.mem_of_getElem? hi) g rfl).2
  rw [hb.cell (p := ⟨g, 0 + j, none⟩) hlt]
  exact c_blkN i hi w h j v hv

theorem tv_31 : TV Try.prog 31 false [.slice none 0 0] := by
  obtain ⟨i, h1, h2, h3⟩ := tv_parts (show (Try.prog.info? 31).map (fun i => (i.zero, i.size)) = some (some (.slice none 0 0), 1) from by kernel_rfl)
  exact ⟨⟨_, Try.underlying31, rfl⟩, i, _, h1, h2, h3, rfl⟩

theorem ts_31 : TSl Try.prog 31 2 1 8 := by
  obtain ⟨i, h1, h2, h3, h4⟩ := ts_parts (show (Try.prog.info? 2).map (fun i => (i.zero, i.size, i.bytes)) = some (some (.int .i64 0), 1, 8) from by kernel_rfl)
  exact ⟨Try.underlying31, i, _, h1, h2, h3, h4, rfl⟩

theorem ts_34 : TSl Try.prog 34 105 2 48 := by
  obtain ⟨i, h1, h2, h3, h4⟩ := ts_parts (show (Try.prog.info? 105).map (fun i => (i.zero, i.size, i.bytes)) = some (some (.agg #[.slice none 0 0, .slice none 0 0]), 2, 48) from by kernel_rfl)
  exact ⟨Try.underlying34, i, _, h1, h2, h3, h4, rfl⟩

theorem fa_105_0 : ∀ b o w, (Instr.fieldAt 105 (.pointer (some ⟨b, o, none⟩)) 0).run Try.prog w = .ok (.pointer (some ⟨b, o + 0, none⟩)) w := by
  obtain ⟨i, z, h1, _, h3, _⟩ := tv_31.info
  exact fun b o w => fieldAt_of (f := 0) Try.underlying105 rfl h1 (by rw [h3]; decide) b o w

theorem en_75 : ∀ args w, (callFunc 75 args).run Try.prog w = .ok (.enter 75 args) w := enters_of Try.func75 (by kernel_rfl) rfl

theorem en_76 : ∀ args w, (callFunc 76 args).run Try.prog w = .ok (.enter 76 args) w := enters_of Try.func76 (by kernel_rfl) rfl

theorem en_77 : ∀ args w, (callFunc 77 args).run Try.prog w = .ok (.enter 77 args) w := enters_of Try.func77 (by kernel_rfl) rfl

theorem en_79 : ∀ args w, (callFunc 79 args).run Try.prog w = .ok (.enter 79 args) w := enters_of Try.func79 (by kernel_rfl) rfl

theorem en_80 : ∀ args w, (callFunc 80 args).run Try.prog w = .ok (.enter 80 args) w := enters_of Try.func80 (by kernel_rfl) rfl

theorem en_81 : ∀ args w, (callFunc 81 args).run Try.prog w = .ok (.enter 81 args) w := enters_of Try.func81 (by kernel_rfl) rfl

theorem en_143 : ∀ args w, (callFunc 143 args).run Try.prog w = .ok (.enter 143 args) w := enters_of Try.func143 (by kernel_rfl) rfl

theorem en_145 : ∀ args w, (callFunc 145 args).run Try.prog w = .ok (.enter 145 args) w := enters_of Try.func145 (by kernel_rfl) rfl

theorem en_149 : ∀ args w, (callFunc 149 args).run Try.prog w = .ok (.enter 149 args) w := enters_of Try.func149 (by kernel_rfl) rfl

theorem en_150 : ∀ args w, (callFunc 150 args).run Try.prog w = .ok (.enter 150 args) w := enters_of Try.func150 (by kernel_rfl) rfl

theorem en_181 : ∀ args w, (callFunc 181 args).run Try.prog w = .ok (.enter 181 args) w := enters_of Try.func181 (by kernel_rfl) rfl

theorem en_185 : ∀ args w, (callFunc 185 args).run Try.prog w = .ok (.enter 185 args) w := enters_of Try.func185 (by kernel_rfl) rfl

theorem en_193 : ∀ args w, (callFunc 193 args).run Try.prog w = .ok (.enter 193 args) w := enters_of Try.func193 (by kernel_rfl) rfl

theorem en_195 : ∀ args w, (callFunc 195 args).run Try.prog w = .ok (.enter 195 args) w := enters_of Try.func195 (by kernel_rfl) rfl

def outB (lo hi n : Int) : Bool := !withinB n lo hi

def allW (xs : List Int) (lo hi : Int) : Bool := !xs.any (outB lo hi)

def isWord (xs : List Int) : Bool := decide (xs.length ≤ 400) && allW xs 0 9

theorem impl_allWithin (A : Option Addr) (c : Nat) (xs : List Int) (lo hi : Int) (w : World) (h : Sl eInt w (Old w) A c xs) :
    Calls Try.prog 88 #[.slice A xs.length c, .int .i64 lo, .int .i64 hi] w fun e w' => e = .returned (.bool (allW xs lo hi)) ∧ w = w' := by
  have hlen := h.len
  have H := Lib.hid h; clear h
  unfold allW
  go_enter Try.func88, Try.ntmps88
  go_wp2
  go_loop [8, 11] (fun _ i => ∃ k : Nat, k ≤ xs.length ∧ i = .int .i64 k ∧ Hid ((xs.take k).any (outB lo hi) = false)) (fun _ i => xs.length - (intOf i).toNat)
  case atStart => exact ⟨0, Nat.zero_le _, rfl, rfl⟩
  case round =>
    obtain ⟨k, hk, rfl, HN⟩ := hrel
    by_cases hlt : k < xs.length
    · have hltz : (k : Int) < (xs.length : Int) := by omega
      obtain ⟨b, off, es, rfl, hb, ⟨rfl, _⟩, hc⟩ := H.out.at1 rfl hlt
      have d0 : w.cell? ⟨b, off + k, none⟩ = some (.int .i64 xs[k]) := hc _ rfl
      clear hc
      have HT : Hid (outB lo hi xs[k] = true → xs.any (outB lo hi) = true) := fun e => any_hit hlt e
      have HS : Hid (outB lo hi xs[k] = false → (xs.take (k + 1)).any (outB lo hi) = false) := fun e => any_step hlt HN.out e
      generalize xs[k] = y at d0 HT HS
      cases q1 : withinB y lo hi
      · go_wp2_with (go_at_call 69; refine (impl_within _ _ _ _).mono ?_; rintro e w' ⟨rfl, rfl⟩; rw [q1])
        go_ret
        exact ⟨by rw [HT.out (by unfold outB; rw [q1]; rfl)]; rfl, rfl⟩
      · go_wp2_with (go_at_call 69; refine (impl_within _ _ _ _).mono ?_; rintro e w' ⟨rfl, rfl⟩; rw [q1])
        go_round
        case rel => exact ⟨k + 1, by omega, by go_num, HS.out (by unfold outB; rw [q1]; rfl)⟩
        case measure => simp [intOf]; omega
    · have hltz : ¬ (k : Int) < (xs.length : Int) := by omega
      obtain rfl : k = xs.length := by omega
      go_wp2
      go_ret
      have hn := HN.out
      rw [List.take_length] at hn
      exact ⟨ret_bool (by rw [hn]; rfl), rfl⟩

theorem impl_isLetters (A : Option Addr) (c : Nat) (xs : List Int) (w : World) (h : Sl eInt w (Old w) A c xs) :
    Calls Try.prog 148 #[.slice A xs.length c] w fun e w' => e = .returned (.bool (allW xs 0 9)) ∧ w = w' := by
  have H := Lib.hid h; clear h
  go_enter Try.func148, Try.ntmps148
  go_wp2_with (go_at_call 88; refine (impl_allWithin _ _ _ _ _ _ H.out).mono ?_; rintro e w' ⟨rfl, rfl⟩)
  go_ret
  exact ⟨rfl, rfl⟩

theorem impl_IsWord (A : Option Addr) (c : Nat) (xs : List Int) (w : World) (h : Sl eInt w (Old w) A c xs) :
    Calls Try.prog 80 #[.slice A xs.length c] w fun e w' => e = .returned (.bool (isWord xs)) ∧ w = w' := by
  have H := Lib.hid h; clear h
  by_cases h1 : xs.length ≤ 400
  · have h1' : decide ((xs.length : Int) ≤ 400) = true := by simp; omega
    rw [show isWord xs = allW xs 0 9 from by unfold isWord; simp [h1]]
    go_enter Try.func80, Try.ntmps80
    go_wp2_with (go_at_call 148; refine (impl_isLetters _ _ _ _ H.out).mono ?_; rintro e w' ⟨rfl, rfl⟩)
    go_ret
    exact ⟨rfl, rfl⟩
  · have h1' : decide ((xs.length : Int) ≤ 400) = false := by simp; omega
    rw [show isWord xs = false from by unfold isWord; simp [h1]]
    go_enter Try.func80, Try.ntmps80
    go_wp2_with fail
    go_ret
    exact ⟨rfl, rfl⟩

theorem enters_areWords1 : ∀ args w, (callFunc 184 args).run Try.prog w = .ok (.enter 184 args) w := enters_of Try.func184 (by kernel_rfl) rfl

def notWord (xs : List Int) : Bool := !isWord xs

theorem impl_areWords1 (es : List Value) (xs : List Int) (w : World) (h : (eSl eInt).R w (Old w) es xs) :
    Calls Try.prog 184 #[es[0]!] w fun e w' => e = .returned (.bool (notWord xs)) ∧ Below w.heap.size w w' := by
  obtain ⟨A, c, rfl, h⟩ := h
  have H := Lib.hid h; clear h
  show Calls Try.prog 184 #[.slice A xs.length c] w _
  go_enter Try.func184, Try.ntmps184
  go_wp2_with (go_at_call 80; refine (impl_IsWord _ _ _ _ H.out).mono ?_; rintro e w' ⟨rfl, rfl⟩)
  go_ret
  exact ⟨rfl, Below.refl _ _⟩

theorem impl_areWords (A : Option Addr) (c : Nat) (xs : List (List Int)) (w : World) (h : Sl (eSl eInt) w (Old w) A c xs) :
    Calls Try.prog 147 #[.slice A xs.length c] w fun e w' => e = .returned (.bool (!xs.any notWord)) ∧ Below w.heap.size w w' := by
  have hI := Lib.hid (ContainsFunc_Int64S notWord 184 #[] A c xs w h enters_areWords1 (fun W x es _ hb hR => impl_areWords1 es x W hR)); clear h
  go_enter Try.func147, Try.ntmps147
  go_wp2_with (go_at_call 183; refine hI.out.mono ?_; rintro e w' ⟨rfl, hb⟩)
  go_ret
  exact ⟨rfl, hb⟩

theorem sl_two {α : Type} {E : Enc α} {w : World} {S : Nat → Prop} {g : Nat} {t : TypeId} {A0 A1 : Option Addr} {c0 c1 : Nat} {x0 x1 : List α} (hB : Blk w g t #[.slice A0 x0.length c0, .slice A1 x1.length c1]) (hg : S g) (h0 : Sl E w S A0 c0 x0) (h1 : Sl E w S A1 c1 x1) :
    Sl (eSl E) w S (some ⟨g, 0, none⟩) 2 [x0, x1] :=
  ⟨Nat.le_refl _, by unfold maxLen; omega, fun _ => ⟨g, 0, rfl, hg, fun i x hx => by
    rcases i with _ | _ | i
    · simp at hx; subst hx
      refine ⟨_, ⟨A0, c0, rfl, h0⟩, fun j v hv => ?_⟩
      rcases j with _ | j
      · simp at hv; subst hv; exact hB.cell 0
      · simp at hv
    · simp at hx; subst hx
      refine ⟨_, ⟨A1, c1, rfl, h1⟩, fun j v hv => ?_⟩
      rcases j with _ | j
      · simp at hv; subst hv; exact hB.cell 1
      · simp at hv
    · simp at hx⟩⟩

def rewBad (x : tRewrite) : Bool := !(isWord x.1 && isWord x.2) || decide (x.1.length = 0)

theorem enters_ValidRewrites1 : ∀ args w, (callFunc 146 args).run Try.prog w = .ok (.enter 146 args) w := enters_of Try.func146 (by kernel_rfl) rfl

theorem any_two (a b : List Int) : (!([a, b].any notWord)) = (isWord a && isWord b) := by
  simp [notWord]

set_option maxHeartbeats 400000 in
theorem impl_ValidRewrites1 (es : List Value) (x : tRewrite) (w : World) (h : eRewrite.R w (Old w) es x) :
    Calls Try.prog 146 #[.agg es.toArray] w fun e w' => e = .returned (.bool (rewBad x)) ∧ Below w.heap.size w w' := by
  obtain ⟨A0, c0, A1, c1, rfl, g0, g1⟩ := shape_Rewrite h
  clear h
  have hlen := g0.len
  have hB1 : Below w.heap.size w ((w.alloc (.cells #[.slice A0 x.1.length c0, .slice A1 x.2.length c1] 105)).alloc (.cells #[.slice A0 x.1.length c0, .slice A1 x.2.length c1] 31)) := by go_grown
  have HW := Lib.hid (impl_areWords _ 2 [x.1, x.2] _ (sl_two (Blk.new1 w (.cells #[.slice A0 x.1.length c0, .slice A1 x.2.length c1] 105) 31 #[.slice A0 x.1.length c0, .slice A1 x.2.length c1]) (by show _ < _; simp) (g0.on hB1) (g1.on hB1)))
  have HB1 := Lib.hid hB1; clear hB1 g0 g1
  cases hq : isWord x.1 && isWord x.2
  · rw [show rewBad x = true from by unfold rewBad; rw [hq]; rfl]
    go_enter Try.func146, Try.ntmps146
    go_wp2_with (go_at_call 147; refine HW.out.mono ?_; rintro e w1 ⟨rfl, hb⟩; rw [any_two, hq])
    go_ret
    exact ⟨rfl, below_trans HB1.out hb⟩
  · rw [show rewBad x = decide (x.1.length = 0) from by unfold rewBad; rw [hq]; rfl]
    go_enter Try.func146, Try.ntmps146
    go_wp2_with fail
    refine HW.out.mono ?_
    rintro e w1 ⟨rfl, hb⟩
    rw [any_two, hq]
    have x0 : w1.cell? ⟨w.heap.size, 0, none⟩ = some (.slice A0 x.1.length c0) := (((Blk.new w 105 #[.slice A0 x.1.length c0, .slice A1 x.2.length c1]).alloc _).on hb).cell 0
    have HB2 := Lib.hid (below_trans HB1.out hb); clear hb
    go_wp2
    go_ret
    exact ⟨ret_bool (len_beq _), HB2.out⟩

def validRew (xs : List tRewrite) : Bool := withinB xs.length 1 60 && !xs.any rewBad

theorem impl_ValidRewrites (A : Option Addr) (c : Nat) (xs : List tRewrite) (w : World) (h : Sl eRewrite w (Old w) A c xs) :
    Calls Try.prog 79 #[.slice A xs.length c] w fun e w' => e = .returned (.bool (validRew xs)) ∧ Below w.heap.size w w' := by
  unfold validRew
  have hI := Lib.hid (ContainsFunc_Rewrite rewBad 146 #[] A c xs w h enters_ValidRewrites1 (fun W x es _ hb hR => impl_ValidRewrites1 es x W hR)); clear h
  cases h1 : withinB xs.length 1 60
  · go_enter Try.func79, Try.ntmps79
    go_wp2_with (first | (go_at_call 144; refine (impl_size_Rewrite _ _ _ _).mono ?_; rintro e w' ⟨rfl, rfl⟩) | (go_at_call 69; refine (impl_within _ _ _ _).mono ?_; rintro e w' ⟨rfl, rfl⟩; rw [h1]))
    go_ret
    exact ⟨by simp, Below.refl _ _⟩
  · go_enter Try.func79, Try.ntmps79
    go_wp2_with (first | (go_at_call 144; refine (impl_size_Rewrite _ _ _ _).mono ?_; rintro e w' ⟨rfl, rfl⟩) | (go_at_call 69; refine (impl_within _ _ _ _).mono ?_; rintro e w' ⟨rfl, rfl⟩; rw [h1]) | (go_at_call 145; refine hI.out.mono ?_; rintro e w' ⟨rfl, hb⟩))
    go_ret
    exact ⟨by simp, hb⟩

theorem spec_l03Is (A : Option Addr) (c : Nat) (xs : List Int) (w : World) (h : Sl eInt w (Old w) A c xs) :
    Calls Try.prog 76 #[.slice A xs.length c] w fun e w' => e = .returned (.bool (isWord xs)) ∧ w = w' := by
  have hlen := h.len
  have H := Lib.hid h; clear h
  have HV : Hid (isWord xs = (decide (xs.length ≤ 400) && !xs.any (outB 0 9))) := rfl
  go_enter Try.func76, Try.ntmps76
  go_wp2
  go_loop [3] (fun i => ∃ k : Nat, k ≤ xs.length ∧ i = .int .i64 k ∧ Hid ((xs.take k).any (outB 0 9) = false)) (fun i => xs.length - (intOf i).toNat)
  case atStart => exact ⟨0, Nat.zero_le _, rfl, rfl⟩
  case round =>
    obtain ⟨k, hk, rfl, HN⟩ := hrel
    by_cases hlt : k < xs.length
    · have hltz : (k : Int) < (xs.length : Int) := by omega
      obtain ⟨b, off, es, rfl, hb, ⟨rfl, _⟩, hc⟩ := H.out.at1 rfl hlt
      have d0 : w.cell? ⟨b, off + k, none⟩ = some (.int .i64 xs[k]) := hc _ rfl
      clear hc
      have HT : Hid (outB 0 9 xs[k] = true → xs.any (outB 0 9) = true) := fun e => any_hit hlt e
      have HS : Hid (outB 0 9 xs[k] = false → (xs.take (k + 1)).any (outB 0 9) = false) := fun e => any_step hlt HN.out e
      generalize xs[k] = y at d0 HT HS
      cases q1 : withinB y 0 9
      · go_wp2_with (go_at_call 67; refine (spec_l00In _ _ _ _).mono ?_; rintro e w' ⟨rfl, rfl⟩; rw [q1])
        go_ret
        exact ⟨ret_bool (by rw [HV.out, HT.out (by unfold outB; rw [q1]; rfl)]; simp), rfl⟩
      · go_wp2_with (go_at_call 67; refine (spec_l00In _ _ _ _).mono ?_; rintro e w' ⟨rfl, rfl⟩; rw [q1])
        go_round
        case rel => exact ⟨k + 1, by omega, by go_num, HS.out (by unfold outB; rw [q1]; rfl)⟩
        case measure => simp [intOf]; omega
    · have hltz : ¬ (k : Int) < (xs.length : Int) := by omega
      obtain rfl : k = xs.length := by omega
      go_wp2
      go_ret
      have hn := HN.out
      rw [List.take_length] at hn
      exact ⟨ret_bool (by rw [HV.out, hn]; simp; omega), rfl⟩

set_option maxHeartbeats 1000000 in
theorem spec_l10Is (A : Option Addr) (c : Nat) (xs : List tRewrite) (w : World) (h : Sl eRewrite w (Old w) A c xs) :
    Calls Try.prog 75 #[.slice A xs.length c] w fun e w' => e = .returned (.bool (validRew xs)) ∧ w = w' := by
  have hlen := h.len
  have H := Lib.hid h; clear h
  by_cases h1 : xs.length < 1
  · rw [show validRew xs = false from by unfold validRew withinB; simp; omega]
    have h1' : (xs.length : Int) < 1 := by omega
    go_enter Try.func75, Try.ntmps75
    go_wp2
    go_ret
    exact ⟨rfl, rfl⟩
  by_cases h2 : xs.length > 60
  · rw [show validRew xs = false from by unfold validRew withinB; simp; omega]
    have h1' : decide ((xs.length : Int) < 1) = false := by simp; omega
    have h2' : (60 : Int) < (xs.length : Int)  := by omega
    go_enter Try.func75, Try.ntmps75
    go_wp2
    go_ret
    exact ⟨rfl, rfl⟩
  rw [show validRew xs = !xs.any rewBad from by unfold validRew; rw [withinB_true.2 (by omega)]; rfl]
  have h1' : decide ((xs.length : Int) < 1) = false := by simp; omega
  have h2' : decide ((60 : Int) < (xs.length : Int)) = false := by simp; omega
  go_enter Try.func75, Try.ntmps75
  go_wp2
  go_loop [3] (fun i => ∃ k : Nat, k ≤ xs.length ∧ i = .int .i64 k ∧ Hid ((xs.take k).any rewBad = false)) (fun i => xs.length - (intOf i).toNat)
  case atStart => exact ⟨0, Nat.zero_le _, rfl, rfl⟩
  case round =>
    obtain ⟨k, hk, rfl, HN⟩ := hrel
    by_cases hlt : k < xs.length
    · have hltz : (k : Int) < (xs.length : Int) := by omega
      obtain ⟨b, off, es, rfl, hb, hR, hc⟩ := H.out.at hlt
      obtain ⟨A0, c0, A1, c1, rfl, g0, g1⟩ := shape_Rewrite hR
      have d0 : w.cell? ⟨b, off + k * 2, none⟩ = some (.slice A0 xs[k].1.length c0) := hc 0 _ rfl
      have d1 : w.cell? ⟨b, off + k * 2 + 1, none⟩ = some (.slice A1 xs[k].2.length c1) := hc 1 _ rfl
      clear hc hR
      have hl0 := g0.len
      have HG0 := Lib.hid (spec_l03Is _ _ _ w g0); clear g0
      have HG1 := Lib.hid (spec_l03Is _ _ _ w g1); clear g1
      have HT : Hid (rewBad xs[k] = true → xs.any rewBad = true) := fun e => any_hit hlt e
      have HS : Hid (rewBad xs[k] = false → (xs.take (k + 1)).any rewBad = false) := fun e => any_step hlt HN.out e
      generalize xs[k] = y at d0 d1 HT HS HG0 HG1 hl0
      cases q0 : isWord y.1
      · have HF := Lib.hid (HT.out (by unfold rewBad; rw [q0]; rfl))
        go_wp2_with fail
        refine HG0.out.mono ?_
        rintro e w' ⟨rfl, rfl⟩
        rw [q0]
        go_wp2
        go_ret
        exact ⟨by rw [HF.out]; rfl, rfl⟩
      cases q1 : isWord y.2
      · have HF := Lib.hid (HT.out (by unfold rewBad; rw [q0, q1]; rfl))
        go_wp2_with fail
        refine HG0.out.mono ?_
        rintro e w' ⟨rfl, rfl⟩
        rw [q0]
        go_wp2_with fail
        refine HG1.out.mono ?_
        rintro e w' ⟨rfl, rfl⟩
        rw [q1]
        go_wp2
        go_ret
        exact ⟨by rw [HF.out]; rfl, rfl⟩
      by_cases q2 : y.1.length = 0
      · have q2' : ((y.1.length : Int) == 0) = true := by rw [len_beq]; exact decide_eq_true q2
        have HF := Lib.hid (HT.out (by unfold rewBad; rw [q0, q1]; simp [q2]))
        clear q2
        go_wp2_with fail
        refine HG0.out.mono ?_
        rintro e w' ⟨rfl, rfl⟩
        rw [q0]
        go_wp2_with fail
        refine HG1.out.mono ?_
        rintro e w' ⟨rfl, rfl⟩
        rw [q1]
        go_wp2
        go_ret
        exact ⟨by rw [HF.out]; rfl, rfl⟩
      · have q2' : ((y.1.length : Int) == 0) = false := by rw [len_beq]; exact decide_eq_false q2
        have HF := Lib.hid (HS.out (by unfold rewBad; rw [q0, q1]; simp [q2]))
        clear q2
        go_wp2_with fail
        refine HG0.out.mono ?_
        rintro e w' ⟨rfl, rfl⟩
        rw [q0]
        go_wp2_with fail
        refine HG1.out.mono ?_
        rintro e w' ⟨rfl, rfl⟩
        rw [q1]
        go_wp2
        go_round
        case rel => exact ⟨k + 1, by omega, by go_num, HF.out⟩
        case measure => simp [intOf]; omega
    · have hltz : ¬ (k : Int) < (xs.length : Int) := by omega
      obtain rfl : k = xs.length := by omega
      go_wp2
      go_ret
      have hn := HN.out
      rw [List.take_length] at hn
      exact ⟨ret_bool (by rw [hn]; rfl), rfl⟩

set_option maxRecDepth 100000 in
set_option maxHeartbeats 1000000 in
theorem spec_l00Same (A A' : Option Addr) (c c' : Nat) (xs ys : List Int) (w : World) (h : Sl eInt w (Old w) A c xs) (h' : Sl eInt w (Old w) A' c' ys) :
    Calls Try.prog 193 #[.slice A xs.length c, .slice A' ys.length c'] w fun e w' => e = .returned (.bool (eq_L xs ys)) ∧ Dr w w' := by
  have hlen := h.len
  have hlen' := h'.len
  unfold eq_L
  by_cases hne : xs.length = ys.length
  · have hne' : ((xs.length : Int) != (ys.length : Int)) = false := by simp [hne]
    have HE := Lib.hid hne; clear hne
    have H := Lib.hid h; clear h
    have H' := Lib.hid h'; clear h'
    go_enter Try.func193, Try.ntmps193
    go_wp2
    clear hne'
    go_loopw [5] (fun s5 wr => ∃ k : Nat, k ≤ xs.length ∧ s5 = .int .i64 k ∧ Hid (Dr w wr) ∧ Hid (∀ j (h1 : j < xs.length) (h2 : j < ys.length), j < k → eq_i xs[j] ys[j] = true)) (fun s5 _ => xs.length - (intOf s5).toNat)
    case atStart => exact ⟨0, Nat.zero_le _, rfl, Dr.refl _, fun j _ _ h => absurd h (Nat.not_lt_zero _)⟩
    case round =>
      obtain ⟨k, hk, rfl, HL, HN⟩ := hrel
      by_cases hlt : k < xs.length
      · have hltz : (k : Int) < (xs.length : Int) := by omega
        have hlt' : k < ys.length := by have := HE.out; omega
        have hltz' : (k : Int) < (ys.length : Int) := by omega
        obtain ⟨bp, offp, esp, rfl, hbp, ⟨rfl, _⟩, hc⟩ := H.out.at1 rfl hlt
        have dp0 : wr.cell? ⟨bp, offp + k, none⟩ = some (.int .i64 xs[k]) := (HL.out.cell _).trans (hc _ rfl)
        clear hc
        obtain ⟨bq, offq, esq, rfl, hbq, ⟨rfl, _⟩, hc⟩ := H'.out.at1 rfl hlt'
        have dq0 : wr.cell? ⟨bq, offq + k, none⟩ = some (.int .i64 ys[k]) := (HL.out.cell _).trans (hc _ rfl)
        clear hc
        have HQ0 : Hid (eq_i xs[k] ys[k] = false → eqL eq_i xs ys = false) := eqL_get xs ys k hlt hlt'
        have HQ1 : Hid (eq_i xs[k] ys[k] = true → ∀ j (h1 : j < xs.length) (h2 : j < ys.length), j < k + 1 → eq_i xs[j] ys[j] = true) := fun e j h1 h2 hj => by
          by_cases ej : j = k
          · subst ej; exact e
          · exact HN.out j h1 h2 (by omega)
        generalize xs[k] = x at dp0 HQ0 HQ1
        generalize ys[k] = y at dq0 HQ0 HQ1
        cases hq : eq_i x y
        · have hq' : (x != y) = true := by simp [eq_i] at hq; simp [hq]
          go_wp2_with fail
          go_quiet (fail)
          go_wp2
          go_ret
          exact ⟨by rw [HQ0.out hq]; rfl, HL.out.drewN _⟩
        · have hq' : (x != y) = false := by simp [eq_i] at hq; simp [hq]
          go_wp2_with fail
          go_quiet (fail)
          go_wp2
          go_roundw
          case rel => exact ⟨k + 1, by omega, by go_num, HL.out.drewN _, HQ1.out hq⟩
          case measure => simp [intOf]; omega
      · have hltz : ¬ (k : Int) < (xs.length : Int) := by omega
        obtain rfl : k = xs.length := by omega
        go_wp2
        go_ret
        exact ⟨by rw [eqL_all xs ys HE.out fun j h1 h2 => HN.out j h1 h2 h1]; rfl, HL.out⟩
  · have hne' : ((xs.length : Int) != (ys.length : Int)) = true := by simp; omega
    rw [eqL_len xs ys hne]
    clear h h' hne
    go_enter Try.func193, Try.ntmps193
    go_wp2
    go_ret
    exact ⟨rfl, Dr.refl _⟩

set_option maxRecDepth 100000 in
set_option maxHeartbeats 1000000 in
theorem slices_Equal (A A' : Option Addr) (c c' : Nat) (xs ys : List Int) (w : World) (h : Sl eInt w (Old w) A c xs) (h' : Sl eInt w (Old w) A' c' ys) :
    Calls Try.prog 195 #[.slice A xs.length c, .slice A' ys.length c'] w fun e w' => e = .returned (.bool (eq_L xs ys)) ∧ Dr w w' := by
  have hlen := h.len
  have hlen' := h'.len
  unfold eq_L
  by_cases hne : xs.length = ys.length
  · have hne' : ((xs.length : Int) != (ys.length : Int)) = false := by simp [hne]
    have HE := Lib.hid hne; clear hne
    have H := Lib.hid h; clear h
    have H' := Lib.hid h'; clear h'
    go_enter Try.func195, Try.ntmps195
    go_wp2
    clear hne'
    go_loopw [5, 13] (fun _ s5 wr => ∃ k : Nat, k ≤ xs.length ∧ s5 = .int .i64 k ∧ Hid (Dr w wr) ∧ Hid (∀ j (h1 : j < xs.length) (h2 : j < ys.length), j < k → eq_i xs[j] ys[j] = true)) (fun _ s5 _ => xs.length - (intOf s5).toNat)
    case atStart => exact ⟨0, Nat.zero_le _, rfl, Dr.refl _, fun j _ _ h => absurd h (Nat.not_lt_zero _)⟩
    case round =>
      obtain ⟨k, hk, rfl, HL, HN⟩ := hrel
      by_cases hlt : k < xs.length
      · have hltz : (k : Int) < (xs.length : Int) := by omega
        have hlt' : k < ys.length := by have := HE.out; omega
        have hltz' : (k : Int) < (ys.length : Int) := by omega
        obtain ⟨bp, offp, esp, rfl, hbp, ⟨rfl, _⟩, hc⟩ := H.out.at1 rfl hlt
        have dp0 : wr.cell? ⟨bp, offp + k, none⟩ = some (.int .i64 xs[k]) := (HL.out.cell _).trans (hc _ rfl)
        clear hc
        obtain ⟨bq, offq, esq, rfl, hbq, ⟨rfl, _⟩, hc⟩ := H'.out.at1 rfl hlt'
        have dq0 : wr.cell? ⟨bq, offq + k, none⟩ = some (.int .i64 ys[k]) := (HL.out.cell _).trans (hc _ rfl)
        clear hc
        have HQ0 : Hid (eq_i xs[k] ys[k] = false → eqL eq_i xs ys = false) := eqL_get xs ys k hlt hlt'
        have HQ1 : Hid (eq_i xs[k] ys[k] = true → ∀ j (h1 : j < xs.length) (h2 : j < ys.length), j < k + 1 → eq_i xs[j] ys[j] = true) := fun e j h1 h2 hj => by
          by_cases ej : j = k
          · subst ej; exact e
          · exact HN.out j h1 h2 (by omega)
        generalize xs[k] = x at dp0 HQ0 HQ1
        generalize ys[k] = y at dq0 HQ0 HQ1
        cases hq : eq_i x y
        · have hq' : (x != y) = true := by simp [eq_i] at hq; simp [hq]
          go_wp2_with fail
          go_quiet (fail)
          go_wp2
          go_ret
          exact ⟨by rw [HQ0.out hq]; rfl, HL.out.drewN _⟩
        · have hq' : (x != y) = false := by simp [eq_i] at hq; simp [hq]
          go_wp2_with fail
          go_quiet (fail)
          go_wp2
          go_roundw
          case rel => exact ⟨k + 1, by omega, by go_num, HL.out.drewN _, HQ1.out hq⟩
          case measure => simp [intOf]; omega
      · have hltz : ¬ (k : Int) < (xs.length : Int) := by omega
        obtain rfl : k = xs.length := by omega
        go_wp2
        go_ret
        exact ⟨by rw [eqL_all xs ys HE.out fun j h1 h2 => HN.out j h1 h2 h1]; rfl, HL.out⟩
  · have hne' : ((xs.length : Int) != (ys.length : Int)) = true := by simp; omega
    rw [eqL_len xs ys hne]
    clear h h' hne
    go_enter Try.func195, Try.ntmps195
    go_wp2
    go_ret
    exact ⟨rfl, Dr.refl _⟩

/-- The word p stands in w at k. -/
def atW (w : List Int) (k : Nat) (p : List Int) : Bool := decide (k + p.length ≤ w.length) && eq_L ((w.drop k).take p.length) p

/-- The first place from k on, or -1. -/
def findW (w p : List Int) (k : Nat) : Int := if h : k + p.length ≤ w.length then (if atW w k p then (k : Int) else findW w p (k + 1)) else -1
termination_by w.length + 1 - k

/-- All places below n. -/
def occTo (w p : List Int) (n : Nat) : List Int := ((List.range n).filter fun k => atW w k p).map fun (k : Nat) => (k : Int)

theorem occTo_succ (w p : List Int) (n : Nat) : occTo w p (n + 1) = occTo w p n ++ (if atW w n p then [(n : Int)] else []) := by
  unfold occTo
  rw [List.range_succ, List.filter_append, List.map_append]
  cases h : atW w n p <;> simp [h]

theorem occTo_len (w p : List Int) (n : Nat) : (occTo w p n).length ≤ n := by
  unfold occTo
  rw [List.length_map]
  exact Nat.le_trans (List.length_filter_le _ _) (by simp)

def occ (w p : List Int) : List Int := occTo w p (w.length + 1)

theorem atW_le {w p : List Int} {k : Nat} (h : atW w k p = true) : k + p.length ≤ w.length := by
  unfold atW at h; simp at h; exact h.1

theorem findW_iff (w p : List Int) : ∀ (n k : Nat), w.length + 1 - k = n → (0 ≤ findW w p k ↔ ∃ j, k ≤ j ∧ atW w j p = true) := by
  intro n
  induction n with
  | zero =>
    intro k hk
    rw [findW, dif_neg (by omega)]
    refine ⟨fun h => by omega, ?_⟩
    rintro ⟨j, h1, h2⟩
    have := atW_le h2; omega
  | succ n ih =>
    intro k hk
    rw [findW]
    by_cases h1 : k + p.length ≤ w.length
    · rw [dif_pos h1]
      cases h2 : atW w k p
      · rw [if_neg (by simp), ih (k + 1) (by omega)]
        refine ⟨fun ⟨j, h3, h4⟩ => ⟨j, by omega, h4⟩, fun ⟨j, h3, h4⟩ => ⟨j, ?_, h4⟩⟩
        rcases Nat.eq_or_lt_of_le h3 with e | e
        · subst e; rw [h2] at h4; cases h4
        · omega
      · rw [if_pos rfl]
        exact ⟨fun _ => ⟨k, Nat.le_refl _, h2⟩, fun _ => by omega⟩
    · rw [dif_neg h1]
      refine ⟨fun h => by omega, ?_⟩
      rintro ⟨j, h3, h4⟩
      have := atW_le h4; omega

def hasW (w p : List Int) : Bool := decide (0 < (occ w p).length)

theorem hasW_iff (w p : List Int) : hasW w p = true ↔ ∃ j, atW w j p = true := by
  unfold hasW occ occTo
  rw [decide_eq_true_iff, List.length_map, List.length_pos_iff_exists_mem]
  simp only [List.mem_filter, List.mem_range]
  exact ⟨fun ⟨j, _, h⟩ => ⟨j, h⟩, fun ⟨j, h⟩ => ⟨j, by have := atW_le h; omega, h⟩⟩

theorem findW_has (w p : List Int) : decide (0 ≤ findW w p 0) = hasW w p := by
  rw [Bool.eq_iff_iff, decide_eq_true_iff, findW_iff w p _ 0 rfl, hasW_iff]
  exact ⟨fun ⟨j, _, h⟩ => ⟨j, h⟩, fun ⟨j, h⟩ => ⟨j, Nat.zero_le _, h⟩⟩

def beginsW (xs ys : List Int) : Bool := decide (ys.length ≤ xs.length) && eq_L (xs.take ys.length) ys

theorem beginsW_drop (xs ys : List Int) (k : Nat) (hk : k ≤ xs.length) : beginsW (xs.drop k) ys = atW xs k ys := by
  unfold beginsW atW
  rw [List.length_drop, show decide (ys.length ≤ xs.length - k) = decide (k + ys.length ≤ xs.length) from by apply decide_eq_decide.2; omega]

def normalW (list : List tRewrite) (w : List Int) : Bool := !list.any (fun r => hasW w r.1)

def isNormalW (list : List tRewrite) (w : List Int) : Bool := validRew list && isWord w && normalW list w

theorem isWord_len {w : List Int} (h : isWord w = true) : w.length ≤ 1000000000 := by
  unfold isWord at h; simp at h; omega

theorem validRew_len {list : List tRewrite} (h : validRew list = true) : ∀ r ∈ list, r.1.length ≤ 1000000000 := by
  intro r hr
  unfold validRew at h
  simp at h
  have := h.2 _ _ hr
  unfold rewBad at this
  simp at this
  exact isWord_len this.1.1

set_option maxRecDepth 100000 in
set_option maxHeartbeats 4000000 in
theorem impl_begins (A0 : Option Addr) (c0 : Nat) (a0 : (List Int)) (A1 : Option Addr) (c1 : Nat) (a1 : (List Int)) (w : World) (h0 : Sl eInt w (Old w) A0 c0 a0) (h1 : Sl eInt w (Old w) A1 c1 a1) :
    Calls Try.prog 185 #[.slice A0 a0.length c0, .slice A1 a1.length c1] w fun e w' => e = .returned (.bool (beginsW a0 a1)) ∧ Below w.heap.size w w' := by
  have l0 := h0.len
  have l1 := h1.len
  have HH1 := Held.start Nob w
  refine enter (n := 18) Try.func185 rfl rfl rfl fun a_2 HE3 => ?_
  refine wp_seq ?_
  refine rg ?_
  refine pl_x HE3 HH1 (wt0 rfl) (x_assign rfl) rfl rfl fun a_4 HE5 => ?_
  refine wpList_nil ?_
  clear a_2 HE3
  refine nrm ?_
  refine wp_seq ?_
  refine rg ?_
  refine pl_x HE5 HH1 (wt0 rfl) (x_move rfl) rfl rfl fun a_6 HE7 => ?_
  refine pl_x HE7 HH1 (wt0 rfl) (x_len Try.underlying31 rfl) rfl rfl fun a_8 HE9 => ?_
  refine pl_x HE9 HH1 (wt0 rfl) (x_move rfl) rfl rfl fun a_10 HE11 => ?_
  refine pl_x HE11 HH1 (wt0 rfl) (x_len Try.underlying31 rfl) rfl rfl fun a_12 HE13 => ?_
  refine pl_x HE13 HH1 (wt0 rfl) (x_geq rfl rfl) rfl rfl fun a_14 HE15 => ?_
  refine pl_x HE15 HH1 (wt0 rfl) (x_move rfl) rfl rfl fun a_16 HE17 => ?_
  by_cases hc21 : (a1.length : Int) ≤ (a0.length : Int)
  · refine pl_x HE17 HH1 (wtT HE17 rfl rfl rfl (decide_eq_true hc21)) (x_move rfl) rfl rfl fun a_18 HE19 => ?_
    refine pl_x HE19 HH1 (wtT HE19 rfl rfl rfl (decide_eq_true hc21)) (x_move rfl) rfl rfl fun a_20 HE21 => ?_
    refine pl_x HE21 HH1 (wtT HE21 rfl rfl rfl (decide_eq_true hc21)) (x_len Try.underlying31 rfl) rfl rfl fun a_22 HE23 => ?_
    have cap22 := (HH1.old h0).1
    refine pl_x HE23 HH1 (wtT HE23 rfl rfl rfl (decide_eq_true hc21)) (x_sliceH (k := a1.length) (r := (a0.take a1.length).length) ts_31 rfl rfl rfl (by omega) (by simp; omega)) rfl rfl fun a_24 HE25 => ?_
    refine pl_x HE25 HH1 (wtT HE25 rfl rfl rfl (decide_eq_true hc21)) (x_move rfl) rfl rfl fun a_26 HE27 => ?_
    refine pl fun K_28 hK29 => ?_
    refine st_call HE27 (wtT HE27 rfl rfl rfl (decide_eq_true hc21)) rfl rfl rfl en_195 rfl rfl (slices_Equal _ _ _ _ (a0.take a1.length) a1 _ ((HH1.old h0).take a1.length) (HH1.old h1)) fun e w' hr => ?_
    obtain ⟨rfl, hbr23⟩ := hr
    have HH30 := HH1.on hbr23.below
    refine ⟨_, rfl, fun a_31 HE32 => hK29 _ _ ?_⟩
    refine pl_x HE32 HH30 (wt0 rfl) (x_pickT rfl (decide_eq_true hc21) rfl) rfl rfl fun a_33 HE34 => ?_
    refine pl_x HE34 HH30 (wt0 rfl) (x_assign rfl) rfl rfl fun a_35 HE36 => ?_
    refine wpList_nil ?_
    clear a_4 HE5 a_6 HE7 a_8 HE9 a_10 HE11 a_12 HE13 a_14 HE15 a_16 HE17 a_18 HE19 a_20 HE21 a_22 HE23 a_24 HE25 HH1 a_26 HE27 a_31 HE32 a_33 HE34 hK29 K_28
    refine nrm ?_
    refine wp_ret ?_
    refine ret1 HE36 rfl (rv_tmp rfl) ?_
    have hF : (beginsW a0 a1) = (eq_L (a0.take a1.length) a1) := by
      first | rfl | (simp [beginsW, hc21]; done) | (simp [beginsW, hc21]; omega) | grind [beginsW]
    exact ⟨by rw [hF] <;> rfl, HH30.below⟩
  · refine pl_no HE17 (wtF HE17 rfl rfl rfl (decide_eq_false hc21)) rfl rfl fun a_37 HE38 => ?_
    refine pl_no HE38 (wtF HE38 rfl rfl rfl (decide_eq_false hc21)) rfl rfl fun a_39 HE40 => ?_
    refine pl_no HE40 (wtF HE40 rfl rfl rfl (decide_eq_false hc21)) rfl rfl fun a_41 HE42 => ?_
    refine pl_no HE42 (wtF HE42 rfl rfl rfl (decide_eq_false hc21)) rfl rfl fun a_43 HE44 => ?_
    refine pl_no HE44 (wtF HE44 rfl rfl rfl (decide_eq_false hc21)) rfl rfl fun a_45 HE46 => ?_
    refine pl_no HE46 (wtF HE46 rfl rfl rfl (decide_eq_false hc21)) rfl rfl fun a_47 HE48 => ?_
    refine pl_x HE48 HH1 (wt0 rfl) (x_pickF rfl (decide_eq_false hc21) rfl) rfl rfl fun a_49 HE50 => ?_
    refine pl_x HE50 HH1 (wt0 rfl) (x_assign rfl) rfl rfl fun a_51 HE52 => ?_
    refine wpList_nil ?_
    clear a_4 HE5 a_6 HE7 a_8 HE9 a_10 HE11 a_12 HE13 a_14 HE15 a_16 HE17 a_37 HE38 a_39 HE40 a_41 HE42 a_43 HE44 a_45 HE46 a_47 HE48 a_49 HE50
    refine nrm ?_
    refine wp_ret ?_
    refine ret1 HE52 rfl (rv_tmp rfl) ?_
    have hF : (beginsW a0 a1) = false := by
      first | rfl | (simp [beginsW, hc21]; done) | (simp [beginsW, hc21]; omega) | grind [beginsW]
    exact ⟨by rw [hF] <;> rfl, HH1.below⟩

set_option maxRecDepth 100000 in
set_option maxHeartbeats 4000000 in
theorem spec_l03At (A0 : Option Addr) (c0 : Nat) (a0 : (List Int)) (a1 : Nat) (A2 : Option Addr) (c2 : Nat) (a2 : (List Int)) (w : World) (h0 : Sl eInt w (Old w) A0 c0 a0) (h2 : Sl eInt w (Old w) A2 c2 a2) (s1 : a1 ≤ 1000000000) (s2 : a2.length ≤ 1000000000) :
    Calls Try.prog 181 #[.slice A0 a0.length c0, .int .i64 (a1 : Int), .slice A2 a2.length c2] w fun e w' => e = .returned (.bool (atW a0 a1 a2)) ∧ Below w.heap.size w w' := by
  have l0 := h0.len
  have l2 := h2.len
  have HH1 := Held.start Nob w
  refine enter (n := 25) Try.func181 rfl rfl rfl fun a_2 HE3 => ?_
  refine wp_seq ?_
  refine rg ?_
  refine pl_x HE3 HH1 (wt0 rfl) (x_assign rfl) rfl rfl fun a_4 HE5 => ?_
  refine wpList_nil ?_
  clear a_2 HE3
  refine nrm ?_
  refine wp_seq ?_
  refine rg ?_
  refine pl_x HE5 HH1 (wt0 rfl) (x_move rfl) rfl rfl fun a_6 HE7 => ?_
  refine pl_x HE7 HH1 (wt0 rfl) (x_move rfl) rfl rfl fun a_8 HE9 => ?_
  refine pl_x HE9 HH1 (wt0 rfl) (x_len Try.underlying31 rfl) rfl rfl fun a_10 HE11 => ?_
  refine pl_x HE11 HH1 (wt0 rfl) (x_add rfl rfl (by exact ⟨by omega, by omega⟩)) rfl rfl fun a_12 HE13 => ?_
  refine pl_x HE13 HH1 (wt0 rfl) (x_move rfl) rfl rfl fun a_14 HE15 => ?_
  refine pl_x HE15 HH1 (wt0 rfl) (x_len Try.underlying31 rfl) rfl rfl fun a_16 HE17 => ?_
  refine pl_x HE17 HH1 (wt0 rfl) (x_leq rfl rfl) rfl rfl fun a_18 HE19 => ?_
  refine pl_x HE19 HH1 (wt0 rfl) (x_move rfl) rfl rfl fun a_20 HE21 => ?_
  by_cases hc21 : ((a1 : Int) + (a2.length : Int)) ≤ (a0.length : Int)
  · refine pl_x HE21 HH1 (wtT HE21 rfl rfl rfl (decide_eq_true hc21)) (x_move rfl) rfl rfl fun a_22 HE23 => ?_
    refine pl_x HE23 HH1 (wtT HE23 rfl rfl rfl (decide_eq_true hc21)) (x_move rfl) rfl rfl fun a_24 HE25 => ?_
    refine pl_x HE25 HH1 (wtT HE25 rfl rfl rfl (decide_eq_true hc21)) (x_move rfl) rfl rfl fun a_26 HE27 => ?_
    refine pl_x HE27 HH1 (wtT HE27 rfl rfl rfl (decide_eq_true hc21)) (x_move rfl) rfl rfl fun a_28 HE29 => ?_
    refine pl_x HE29 HH1 (wtT HE29 rfl rfl rfl (decide_eq_true hc21)) (x_len Try.underlying31 rfl) rfl rfl fun a_30 HE31 => ?_
    refine pl_x HE31 HH1 (wtT HE31 rfl rfl rfl (decide_eq_true hc21)) (x_add rfl rfl (by exact ⟨by omega, by omega⟩)) rfl rfl fun a_32 HE33 => ?_
    have cap22 := (HH1.old h0).1
    refine pl_x HE33 HH1 (wtT HE33 rfl rfl rfl (decide_eq_true hc21)) (x_sliceLH (k := a1) (k2 := (a1 + a2.length)) (r := ((a0.drop a1).take a2.length).length) ts_31 rfl rfl rfl rfl (by omega) (by omega) (by omega) (by simp; omega)) rfl rfl fun a_34 HE35 => ?_
    refine pl_x HE35 HH1 (wtT HE35 rfl rfl rfl (decide_eq_true hc21)) (x_move rfl) rfl rfl fun a_36 HE37 => ?_
    refine pl fun K_38 hK39 => ?_
    refine st_call HE37 (wtT HE37 rfl rfl rfl (decide_eq_true hc21)) rfl rfl rfl en_193 rfl rfl (spec_l00Same _ _ _ _ ((a0.drop a1).take a2.length) a2 _ (((HH1.old h0).cutD a1).take a2.length) (HH1.old h2)) fun e w' hr => ?_
    obtain ⟨rfl, hbr23⟩ := hr
    have HH40 := HH1.on hbr23.below
    refine ⟨_, rfl, fun a_41 HE42 => hK39 _ _ ?_⟩
    refine pl_x HE42 HH40 (wt0 rfl) (x_pickT rfl (decide_eq_true hc21) rfl) rfl rfl fun a_43 HE44 => ?_
    refine pl_x HE44 HH40 (wt0 rfl) (x_assign rfl) rfl rfl fun a_45 HE46 => ?_
    refine wpList_nil ?_
    clear a_4 HE5 a_6 HE7 a_8 HE9 a_10 HE11 a_12 HE13 a_14 HE15 a_16 HE17 a_18 HE19 a_20 HE21 a_22 HE23 a_24 HE25 a_26 HE27 a_28 HE29 a_30 HE31 a_32 HE33 a_34 HE35 HH1 a_36 HE37 a_41 HE42 a_43 HE44 hK39 K_38
    refine nrm ?_
    refine wp_ret ?_
    refine ret1 HE46 rfl (rv_tmp rfl) ?_
    have hF : (atW a0 a1 a2) = (eq_L ((a0.drop a1).take a2.length) a2) := by
      first | rfl | (simp [atW, hc21]; done) | (simp [atW, hc21]; omega) | grind [atW]
    exact ⟨by rw [hF] <;> rfl, HH40.below⟩
  · refine pl_no HE21 (wtF HE21 rfl rfl rfl (decide_eq_false hc21)) rfl rfl fun a_47 HE48 => ?_
    refine pl_no HE48 (wtF HE48 rfl rfl rfl (decide_eq_false hc21)) rfl rfl fun a_49 HE50 => ?_
    refine pl_no HE50 (wtF HE50 rfl rfl rfl (decide_eq_false hc21)) rfl rfl fun a_51 HE52 => ?_
    refine pl_no HE52 (wtF HE52 rfl rfl rfl (decide_eq_false hc21)) rfl rfl fun a_53 HE54 => ?_
    refine pl_no HE54 (wtF HE54 rfl rfl rfl (decide_eq_false hc21)) rfl rfl fun a_55 HE56 => ?_
    refine pl_no HE56 (wtF HE56 rfl rfl rfl (decide_eq_false hc21)) rfl rfl fun a_57 HE58 => ?_
    refine pl_no HE58 (wtF HE58 rfl rfl rfl (decide_eq_false hc21)) rfl rfl fun a_59 HE60 => ?_
    refine pl_no HE60 (wtF HE60 rfl rfl rfl (decide_eq_false hc21)) rfl rfl fun a_61 HE62 => ?_
    refine pl_no HE62 (wtF HE62 rfl rfl rfl (decide_eq_false hc21)) rfl rfl fun a_63 HE64 => ?_
    refine pl_x HE64 HH1 (wt0 rfl) (x_pickF rfl (decide_eq_false hc21) rfl) rfl rfl fun a_65 HE66 => ?_
    refine pl_x HE66 HH1 (wt0 rfl) (x_assign rfl) rfl rfl fun a_67 HE68 => ?_
    refine wpList_nil ?_
    clear a_4 HE5 a_6 HE7 a_8 HE9 a_10 HE11 a_12 HE13 a_14 HE15 a_16 HE17 a_18 HE19 a_20 HE21 a_47 HE48 a_49 HE50 a_51 HE52 a_53 HE54 a_55 HE56 a_57 HE58 a_59 HE60 a_61 HE62 a_63 HE64 a_65 HE66
    refine nrm ?_
    refine wp_ret ?_
    refine ret1 HE68 rfl (rv_tmp rfl) ?_
    have hF : (atW a0 a1 a2) = false := by
      first | rfl | (simp [atW, hc21]; done) | (simp [atW, hc21]; omega) | grind [atW]
    exact ⟨by rw [hF] <;> rfl, HH1.below⟩

set_option maxRecDepth 100000 in
set_option maxHeartbeats 4000000 in
theorem spec_l03Find (A0 : Option Addr) (c0 : Nat) (a0 : (List Int)) (A1 : Option Addr) (c1 : Nat) (a1 : (List Int)) (a2 : Nat) (w : World) (h0 : Sl eInt w (Old w) A0 c0 a0) (h1 : Sl eInt w (Old w) A1 c1 a1) (s0 : a0.length ≤ 1000000000) (s1 : a1.length ≤ 1000000000) (s2 : a2 ≤ a0.length) :
    Calls Try.prog 143 #[.slice A0 a0.length c0, .slice A1 a1.length c1, .int .i64 (a2 : Int)] w fun e w' => e = .returned (.int .i64 (findW a0 a1 a2)) ∧ Below w.heap.size w w' := by
  have l0 := h0.len
  have l1 := h1.len
  have HH1 := Held.start Nob w
  refine enter (n := 23) Try.func143 rfl rfl rfl fun a_2 HE3 => ?_
  refine wp_seq ?_
  refine rg ?_
  refine pl_x HE3 HH1 (wt0 rfl) (x_assign rfl) rfl rfl fun a_4 HE5 => ?_
  refine wpList_nil ?_
  clear a_2 HE3
  refine nrm ?_
  refine wp_seq ?_
  refine wp_seq ?_
  refine rg ?_
  refine pl_x HE5 HH1 (wt0 rfl) (x_move rfl) rfl rfl fun a_6 HE7 => ?_
  refine pl_x HE7 HH1 (wt0 rfl) (x_assign rfl) rfl rfl fun a_8 HE9 => ?_
  refine wpList_nil ?_
  clear a_4 HE5 a_6 HE7
  refine nrm ?_
  refine wp_block ?_
  refine lp (fun m a w' => ∃ (k : Nat), m = a0.length + 1 - k ∧ Env 23 [(7, .int .i64 (k : Int)), (0, .slice A0 (a0.length) c0), (1, .slice A1 (a1.length) c1)] a ∧ Held Nob w [] w' ∧ (k ≤ a0.length + 1) ∧ (findW a0 a1 a2 = findW a0 a1 k)) (a0.length + 1 - (a2)) ?_ ?_
  · exact ⟨a2, rfl, HE9.sub ⟨rfl, rfl, rfl, trivial⟩, (HH1.sel [] (by decide) rfl), (by first | omega | assumption | (simp; done) | simp_all), (by rfl)⟩
  · rintro m a_10 w' ⟨k, rfl, HE11, HH12, p21_0, p21_1⟩
    refine wp_seq ?_
    refine wp_seq ?_
    refine rg ?_
    refine pl_x HE11 HH12 (wt0 rfl) (x_move rfl) rfl rfl fun a_13 HE14 => ?_
    refine pl_x HE14 HH12 (wt0 rfl) (x_move rfl) rfl rfl fun a_15 HE16 => ?_
    refine pl_x HE16 HH12 (wt0 rfl) (x_len Try.underlying31 rfl) rfl rfl fun a_17 HE18 => ?_
    refine pl_x HE18 HH12 (wt0 rfl) (x_add rfl rfl (by exact ⟨by omega, by omega⟩)) rfl rfl fun a_19 HE20 => ?_
    refine pl_x HE20 HH12 (wt0 rfl) (x_move rfl) rfl rfl fun a_21 HE22 => ?_
    refine pl_x HE22 HH12 (wt0 rfl) (x_len Try.underlying31 rfl) rfl rfl fun a_23 HE24 => ?_
    refine pl_x HE24 HH12 (wt0 rfl) (x_leq rfl rfl) rfl rfl fun a_25 HE26 => ?_
    refine wpList_nil ?_
    clear a_8 HE9 HH1 a_10 HE11 a_13 HE14 a_15 HE16 a_17 HE18 a_19 HE20 a_21 HE22 a_23 HE24
    refine nrm ?_
    refine cnd_d HE26 rfl (fun hc22 => ?_) (fun hc22 => ?_)
    · refine wp_skip ?_
      refine nrm ?_
      refine wp_seq ?_
      refine wp_block ?_
      refine wp_seq ?_
      refine rg ?_
      refine pl_x HE26 HH12 (wt0 rfl) (x_move rfl) rfl rfl fun a_27 HE28 => ?_
      refine pl_x HE28 HH12 (wt0 rfl) (x_move rfl) rfl rfl fun a_29 HE30 => ?_
      refine pl_x HE30 HH12 (wt0 rfl) (x_move rfl) rfl rfl fun a_31 HE32 => ?_
      refine pl fun K_33 hK34 => ?_
      refine st_call HE32 (wt0 rfl) rfl rfl rfl en_181 rfl rfl (spec_l03At _ _ a0 k _ _ a1 _ (HH12.old h0) (HH12.old h1) (by omega) (by omega)) fun e w' hr => ?_
      obtain ⟨rfl, hbr23⟩ := hr
      have HH35 := HH12.on hbr23
      refine ⟨_, rfl, fun a_36 HE37 => hK34 _ _ ?_⟩
      refine wpList_nil ?_
      clear a_25 HE26 a_27 HE28 a_29 HE30 HH12 a_31 HE32 hK34 K_33
      refine nrm ?_
      refine cnd_b HE37 rfl (fun hc24 => ?_) (fun hc24 => ?_)
      · refine wp_seq ?_
        refine rg ?_
        refine pl_x HE37 HH35 (wt0 rfl) (x_move rfl) rfl rfl fun a_38 HE39 => ?_
        refine pl_x HE39 HH35 (wt0 rfl) (x_assign rfl) rfl rfl fun a_40 HE41 => ?_
        refine wpList_nil ?_
        clear a_36 HE37 a_38 HE39
        refine nrm ?_
        refine wp_ret ?_
        refine (blk_ret (thn_ret (thn_ret (blk_ret (thn_ret ?_)))))
        refine ret1 HE41 rfl (rv_tmp rfl) ?_
        have hF : (findW a0 a1 a2) = (k : Int) := by
          first | (rw [p21_1, findW, dif_pos (by omega), if_pos (by simp [p21_0, p21_1, hc22, hc24])]) | (rw [p21_1, findW, dif_neg (by omega)])
        exact ⟨by rw [hF] <;> rfl, HH35.below⟩
      · refine wp_skip ?_
        refine blk_n ?_
        refine nrm ?_
        refine rg ?_
        refine pl_x HE37 HH35 (wt0 rfl) (x_move rfl) rfl rfl fun a_42 HE43 => ?_
        refine pl_x HE43 HH35 (wt0 rfl) (x_add rfl rfl (by exact ⟨by omega, by omega⟩)) rfl rfl fun a_44 HE45 => ?_
        refine pl_x HE45 HH35 (wt0 rfl) (x_assign rfl) rfl rfl fun a_46 HE47 => ?_
        refine wpList_nil ?_
        clear a_36 HE37 a_42 HE43 a_44 HE45
        exact nrm ⟨a0.length + 1 - (k + 1), (by omega), k + 1, rfl, HE47.sub ⟨(lkI rfl (by first | rfl | omega)), rfl, rfl, trivial⟩, (HH35.sel [] (by decide) rfl), (by first | omega | assumption | (simp; done) | simp_all), (by rw [p21_1, findW, dif_pos (by omega), if_neg (by simp [p21_0, p21_1, hc22, hc24])])⟩
    · refine wp_exit ?_
      refine (thn_exit (thn_exit (blk_hit ?_)))
      refine nrm ?_
      refine wp_seq ?_
      refine rg ?_
      refine pl_x HE26 HH12 (wt0 rfl) (x_assign rfl) rfl rfl fun a_48 HE49 => ?_
      refine wpList_nil ?_
      clear a_25 HE26
      refine nrm ?_
      refine wp_ret ?_
      refine ret1 HE49 rfl (rv_tmp rfl) ?_
      have hF : (findW a0 a1 a2) = -1 := by
        first | (rw [p21_1, findW, dif_pos (by omega), if_pos (by simp [p21_0, p21_1, hc22])]) | (rw [p21_1, findW, dif_neg (by omega)])
      exact ⟨by rw [hF] <;> rfl, HH12.below⟩

set_option maxRecDepth 100000 in
set_option maxHeartbeats 4000000 in
theorem impl_occurrences (A0 : Option Addr) (c0 : Nat) (a0 : (List Int)) (A1 : Option Addr) (c1 : Nat) (a1 : (List Int)) (w : World) (h0 : Sl eInt w (Old w) A0 c0 a0) (h1 : Sl eInt w (Old w) A1 c1 a1) (s0 : a0.length ≤ 1000000000) (s1 : a1.length ≤ 1000000000) :
    Calls Try.prog 150 #[.slice A0 a0.length c0, .slice A1 a1.length c1] w fun e w' => ∃ (A0' : Option Addr) (c0' : Nat), e = .returned (.slice A0' (occ a0 a1).length c0') ∧ So eInt w' (Fr w w') A0' c0' (occ a0 a1) ∧ Below w.heap.size w w' := by
  have l0 := h0.len
  have l1 := h1.len
  have HH1 := Held.start Nob w
  refine enter (n := 24) Try.func150 rfl rfl rfl fun a_2 HE3 => ?_
  refine wp_seq ?_
  refine rg ?_
  refine pl_x HE3 HH1 (wt0 rfl) (x_assign rfl) rfl rfl fun a_4 HE5 => ?_
  refine wpList_nil ?_
  clear a_2 HE3
  refine nrm ?_
  refine wp_seq ?_
  refine rg ?_
  refine pl fun K_6 hK7 => ?_
  refine st_lit (m := 0) (cs := []) (e := 2) HE5 HH1 (run_lit ts_31 HE5 (vs := []) rfl rfl (by simp [Value.cells]) rfl (by decide)) (wt0 rfl) rfl rfl fun q21 a_8 w' HE9 HH10 => hK7 _ _ ?_
  refine pl_x HE9 HH10 (wt0 rfl) (x_assign rfl) rfl rfl fun a_11 HE12 => ?_
  refine wpList_nil ?_
  clear a_4 HE5 HH1 a_8 HE9 hK7 K_6
  refine nrm ?_
  refine wp_seq ?_
  refine wp_seq ?_
  refine rg ?_
  refine pl_x HE12 HH10 (wt0 rfl) (x_assign rfl) rfl rfl fun a_13 HE14 => ?_
  refine wpList_nil ?_
  clear a_11 HE12
  refine nrm ?_
  refine wp_block ?_
  have HH15 := Held.vecFlat (E := eInt) (xs := []) (css := []) HH10 rfl (Nat.zero_le _) (fun i x hx => by simp at hx)
  refine lp (fun m a w' => ∃ (k : Nat) (A_5 : Option Addr) (c_5 : Nat) (S_5 : Nat → Prop), m = a0.length + 1 - k ∧ Env 24 [(5, .slice A_5 (List.length (occTo a0 a1 k)) c_5), (6, .int .i64 (k : Int)), (0, .slice A0 (a0.length) c0), (1, .slice A1 (a1.length) c1)] a ∧ Held Nob w [rVec eInt 2 S_5 A_5 c_5 (occTo a0 a1 k)] w' ∧ (k ≤ a0.length + 1)) (a0.length + 1 - (0)) ?_ ?_
  · have E22 : occTo a0 a1 0 = ([] : List Int) := by
      first | rfl | simp
    exact ⟨0, (some ⟨q21, 0, none⟩), (List.length (α := Int) []), (fun b => b = q21), rfl, HE14.sub ⟨(by rw [E22]; rfl), (lkI rfl (by first | rfl | omega)), rfl, rfl, trivial⟩, ((HH15.sel [0] (by decide) rfl).to (by rw [E22])), (by first | omega | assumption | (simp; done) | simp_all)⟩
  · rintro m a_16 w' ⟨k, A_5, c_5, S_5, rfl, HE17, HH18, p23_0⟩
    have ol := occTo_len a0 a1 k
    refine wp_seq ?_
    refine wp_seq ?_
    refine rg ?_
    refine pl_x HE17 HH18 (wt0 rfl) (x_move rfl) rfl rfl fun a_19 HE20 => ?_
    refine pl_x HE20 HH18 (wt0 rfl) (x_move rfl) rfl rfl fun a_21 HE22 => ?_
    refine pl_x HE22 HH18 (wt0 rfl) (x_len Try.underlying31 rfl) rfl rfl fun a_23 HE24 => ?_
    refine pl_x HE24 HH18 (wt0 rfl) (x_leq rfl rfl) rfl rfl fun a_25 HE26 => ?_
    refine wpList_nil ?_
    clear HH10 a_13 HE14 HH15 a_16 HE17 a_19 HE20 a_21 HE22 a_23 HE24
    refine nrm ?_
    refine cnd_d HE26 rfl (fun hc24 => ?_) (fun hc24 => ?_)
    · refine wp_skip ?_
      refine nrm ?_
      refine wp_seq ?_
      refine wp_block ?_
      refine wp_seq ?_
      refine rg ?_
      refine pl_x HE26 HH18 (wt0 rfl) (x_move rfl) rfl rfl fun a_27 HE28 => ?_
      refine pl_x HE28 HH18 (wt0 rfl) (x_move rfl) rfl rfl fun a_29 HE30 => ?_
      refine pl_x HE30 HH18 (wt0 rfl) (x_sliceL ts_31 rfl rfl rfl (by omega) List.length_drop.symm) rfl rfl fun a_31 HE32 => ?_
      refine pl_x HE32 HH18 (wt0 rfl) (x_move rfl) rfl rfl fun a_33 HE34 => ?_
      refine pl fun K_35 hK36 => ?_
      refine st_call HE34 (wt0 rfl) rfl rfl rfl en_185 rfl rfl (impl_begins _ _ (a0.drop k) _ _ a1 _ ((HH18.old h0).cutD k) (HH18.old h1)) fun e w' hr => ?_
      obtain ⟨rfl, hbr25⟩ := hr
      have HH37 := HH18.on hbr25
      refine ⟨_, rfl, fun a_38 HE39 => hK36 _ _ ?_⟩
      refine wpList_nil ?_
      clear a_25 HE26 a_27 HE28 a_29 HE30 a_31 HE32 HH18 a_33 HE34 hK36 K_35
      refine nrm ?_
      refine cnd_b HE39 rfl (fun hc26 => ?_) (fun hc26 => ?_)
      · refine rg ?_
        refine pl_x HE39 HH37 (wt0 rfl) (x_move rfl) rfl rfl fun a_40 HE41 => ?_
        refine pl_x HE41 HH37 (wt0 rfl) (x_move rfl) rfl rfl fun a_42 HE43 => ?_
        refine pl fun K_44 hK45 => ?_
        refine st_lit (m := 1) (cs := [.int .i64 ((k : Int))]) (e := 2) HE43 HH37 (run_lit ts_31 HE43 (vs := [.int .i64 ((k : Int))]) rfl rfl (by simp [Value.cells]) rfl (by decide)) (wt0 rfl) rfl rfl fun q27 a_46 w' HE47 HH48 => hK45 _ _ ?_
        refine pl fun K_49 hK50 => ?_
        refine st_app1F (k : Int) HE47 HH48 ts_31 [1, 0] (by decide) rfl (fun _ => (oI (by exact ⟨by omega, by omega⟩))) rfl rfl (by simp [Value.oneCell']) (by unfold maxLen; omega) (by omega) (wt0 rfl) rfl fun A28 c29 S30 a_51 w' HE52 HH53 => hK50 _ _ ?_
        refine pl_x HE52 HH53 (wt0 rfl) (x_assign rfl) rfl rfl fun a_54 HE55 => ?_
        refine wpList_nil ?_
        clear a_38 HE39 a_40 HE41 a_42 HE43 HH37 K_44 hK45 a_46 HE47 HH48 a_51 HE52 hK50 K_49
        refine blk_n ?_
        refine nrm ?_
        refine rg ?_
        refine pl_x HE55 HH53 (wt0 rfl) (x_move rfl) rfl rfl fun a_56 HE57 => ?_
        refine pl_x HE57 HH53 (wt0 rfl) (x_add rfl rfl (by exact ⟨by omega, by omega⟩)) rfl rfl fun a_58 HE59 => ?_
        refine pl_x HE59 HH53 (wt0 rfl) (x_assign rfl) rfl rfl fun a_60 HE61 => ?_
        refine wpList_nil ?_
        clear a_54 HE55 a_56 HE57 a_58 HE59
        have E31 : occTo a0 a1 (k + 1) = (occTo a0 a1 k ++ [(k : Int)]) := by
          rw [occTo_succ, ← beginsW_drop a0 a1 k (by omega)]; simp [p23_0, hc24, hc26]
        exact nrm ⟨a0.length + 1 - (k + 1), (by omega), k + 1, A28, c29, S30, rfl, HE61.sub ⟨(by rw [E31]; rfl), (lkI rfl (by first | rfl | omega)), rfl, rfl, trivial⟩, ((HH53.sel [0] (by decide) rfl).to (by rw [E31])), (by first | omega | assumption | (simp; done) | simp_all)⟩
      · refine wp_skip ?_
        refine blk_n ?_
        refine nrm ?_
        refine rg ?_
        refine pl_x HE39 HH37 (wt0 rfl) (x_move rfl) rfl rfl fun a_62 HE63 => ?_
        refine pl_x HE63 HH37 (wt0 rfl) (x_add rfl rfl (by exact ⟨by omega, by omega⟩)) rfl rfl fun a_64 HE65 => ?_
        refine pl_x HE65 HH37 (wt0 rfl) (x_assign rfl) rfl rfl fun a_66 HE67 => ?_
        refine wpList_nil ?_
        clear a_38 HE39 a_62 HE63 a_64 HE65
        have E32 : occTo a0 a1 (k + 1) = occTo a0 a1 k := by
          rw [occTo_succ, ← beginsW_drop a0 a1 k (by omega)]; simp [p23_0, hc24, hc26]
        exact nrm ⟨a0.length + 1 - (k + 1), (by omega), k + 1, A_5, c_5, S_5, rfl, HE67.sub ⟨(by rw [E32]; rfl), (lkI rfl (by first | rfl | omega)), rfl, rfl, trivial⟩, ((HH37.sel [0] (by decide) rfl).to (by rw [E32])), (by first | omega | assumption | (simp; done) | simp_all)⟩
    · refine wp_exit ?_
      refine (thn_exit (thn_exit (blk_hit ?_)))
      refine nrm ?_
      refine wp_seq ?_
      refine rg ?_
      refine pl_x HE26 HH18 (wt0 rfl) (x_move rfl) rfl rfl fun a_68 HE69 => ?_
      refine pl_x HE69 HH18 (wt0 rfl) (x_assign rfl) rfl rfl fun a_70 HE71 => ?_
      refine wpList_nil ?_
      clear a_25 HE26 a_68 HE69
      refine nrm ?_
      refine wp_ret ?_
      refine ret1 HE71 rfl (rv_tmp rfl) ?_
      have HH72 := HH18.vecSo
      have hF : (occ a0 a1) = occTo a0 a1 k := by
        unfold occ; rw [show a0.length + 1 = k from by omega]
      exact ⟨A_5, c_5, by rw [hF] <;> rfl, by rw [hF]; exact (HH72.so (i := 0) rfl), HH72.below⟩

set_option maxRecDepth 100000 in
set_option maxHeartbeats 4000000 in
theorem spec_l10Normal (A0 : Option Addr) (c0 : Nat) (a0 : (List tRewrite)) (A1 : Option Addr) (c1 : Nat) (a1 : (List Int)) (w : World) (h0 : Sl eRewrite w (Old w) A0 c0 a0) (h1 : Sl eInt w (Old w) A1 c1 a1) (s0 : ∀ r ∈ a0, r.1.length ≤ 1000000000) (s1 : a1.length ≤ 1000000000) :
    Calls Try.prog 77 #[.slice A0 a0.length c0, .slice A1 a1.length c1] w fun e w' => e = .returned (.bool (normalW a0 a1)) ∧ Below w.heap.size w w' := by
  have l0 := h0.len
  have l1 := h1.len
  have HH1 := Held.start Nob w
  refine enter (n := 20) Try.func77 rfl rfl rfl fun a_2 HE3 => ?_
  refine wp_seq ?_
  refine rg ?_
  refine pl_x HE3 HH1 (wt0 rfl) (x_assign rfl) rfl rfl fun a_4 HE5 => ?_
  refine wpList_nil ?_
  clear a_2 HE3
  refine nrm ?_
  refine wp_seq ?_
  refine wp_seq ?_
  refine rg ?_
  refine pl_x HE5 HH1 (wt0 rfl) (x_assign rfl) rfl rfl fun a_6 HE7 => ?_
  refine wpList_nil ?_
  clear a_4 HE5
  refine nrm ?_
  refine wp_block ?_
  refine lp (fun m a w' => ∃ (k : Nat), m = a0.length - k ∧ Env 20 [(5, .int .i64 (k : Int)), (0, .slice A0 (a0.length) c0), (1, .slice A1 (a1.length) c1)] a ∧ Held Nob w [] w' ∧ (k ≤ a0.length) ∧ ((a0.take k).any (fun r => hasW a1 r.1) = false)) (a0.length - (0)) ?_ ?_
  · exact ⟨0, rfl, HE7.sub ⟨(lkI rfl (by first | rfl | omega)), rfl, rfl, trivial⟩, (HH1.sel [] (by decide) rfl), (by first | omega | assumption | (simp; done) | simp_all), (by rfl)⟩
  · rintro m a_8 w' ⟨k, rfl, HE9, HH10, p21_0, p21_1⟩
    refine wp_seq ?_
    refine wp_seq ?_
    refine rg ?_
    refine pl_x HE9 HH10 (wt0 rfl) (x_move rfl) rfl rfl fun a_11 HE12 => ?_
    refine pl_x HE12 HH10 (wt0 rfl) (x_move rfl) rfl rfl fun a_13 HE14 => ?_
    refine pl_x HE14 HH10 (wt0 rfl) (x_len Try.underlying34 rfl) rfl rfl fun a_15 HE16 => ?_
    refine pl_x HE16 HH10 (wt0 rfl) (x_lss rfl rfl) rfl rfl fun a_17 HE18 => ?_
    refine wpList_nil ?_
    clear a_6 HE7 HH1 a_8 HE9 a_11 HE12 a_13 HE14 a_15 HE16
    refine nrm ?_
    refine cnd_d HE18 rfl (fun hc22 => ?_) (fun hc22 => ?_)
    · refine wp_skip ?_
      refine nrm ?_
      refine wp_seq ?_
      refine wp_block ?_
      refine wp_seq ?_
      refine rg ?_
      refine pl_x HE18 HH10 (wt0 rfl) (x_move rfl) rfl rfl fun a_19 HE20 => ?_
      refine pl_x HE20 HH10 (wt0 rfl) (x_move rfl) rfl rfl fun a_21 HE22 => ?_
      refine pl_x HE22 HH10 (wt0 rfl) (x_move rfl) rfl rfl fun a_23 HE24 => ?_
      have ke23 : k < a0.length := by omega
      obtain ⟨be23, fe23, ese23, Ae23, Re23, De23⟩ := el_old h0 ke23
      obtain ⟨e23, xe23⟩ : ∃ x, x = a0[k] := ⟨_, rfl⟩
      rw [← xe23] at Re23
      have Qe23 := Re23
      obtain ⟨Ae23_0, ce23_0, Ae23_1, ce23_1, rfl, ge23_0, ge23_1⟩ := shape_Rewrite Re23
      have le23_0 := ge23_0.len
      have le23_1 := ge23_1.len
      have se23 := s0 e23 (by rw [xe23]; exact List.getElem_mem _)
      refine pl_x HE24 HH10 (wt0 rfl) (x_indexAddr ts_34 rfl rfl Ae23 rfl ke23) rfl rfl fun a_25 HE26 => ?_
      refine pl_x HE26 HH10 (wt0 rfl) (x_fieldAddr fa_105_0 rfl) rfl rfl fun a_27 HE28 => ?_
      refine pl_x HE28 HH10 (wt0 rfl) (x_load1 tv_31 rfl (c_old (De23 0 _ rfl))) rfl rfl fun a_29 HE30 => ?_
      refine pl fun K_31 hK32 => ?_
      refine st_call HE30 (wt0 rfl) rfl rfl rfl en_143 rfl rfl (spec_l03Find _ _ a1 _ _ e23.1 0 _ (HH10.old h1) (HH10.old ge23_0) (by omega) (by omega) (by omega)) fun e w' hr => ?_
      obtain ⟨rfl, hbr24⟩ := hr
      have HH33 := HH10.on hbr24
      refine ⟨_, rfl, fun a_34 HE35 => hK32 _ _ ?_⟩
      refine pl_x HE35 HH33 (wt0 rfl) (x_geq rfl rfl) rfl rfl fun a_36 HE37 => ?_
      refine wpList_nil ?_
      clear a_17 HE18 a_19 HE20 a_21 HE22 a_23 HE24 a_25 HE26 a_27 HE28 HH10 a_29 HE30 a_34 HE35 hK32 K_31
      refine nrm ?_
      refine cnd_d HE37 rfl (fun hc25 => ?_) (fun hc25 => ?_)
      · refine wp_seq ?_
        refine rg ?_
        refine pl_x HE37 HH33 (wt0 rfl) (x_assign rfl) rfl rfl fun a_38 HE39 => ?_
        refine wpList_nil ?_
        clear a_36 HE37
        refine nrm ?_
        refine wp_ret ?_
        refine (blk_ret (thn_ret (thn_ret (blk_ret (thn_ret ?_)))))
        refine ret1 HE39 rfl (rv_tmp rfl) ?_
        have hF : (normalW a0 a1) = false := by
          first | (unfold normalW; rw [any_hit (by omega : k < a0.length) (by rw [← xe23, ← findW_has]; simp; omega)]; rfl) | (unfold normalW; rw [show a0.any (fun r => hasW a1 r.1) = false from by have := p21_1; rwa [List.take_of_length_le (by omega)] at this]; rfl)
        exact ⟨by rw [hF] <;> rfl, HH33.below⟩
      · refine wp_skip ?_
        refine blk_n ?_
        refine nrm ?_
        refine rg ?_
        refine pl_x HE37 HH33 (wt0 rfl) (x_move rfl) rfl rfl fun a_40 HE41 => ?_
        refine pl_x HE41 HH33 (wt0 rfl) (x_add rfl rfl (by exact ⟨by omega, by omega⟩)) rfl rfl fun a_42 HE43 => ?_
        refine pl_x HE43 HH33 (wt0 rfl) (x_assign rfl) rfl rfl fun a_44 HE45 => ?_
        refine wpList_nil ?_
        clear a_36 HE37 a_40 HE41 a_42 HE43
        exact nrm ⟨a0.length - (k + 1), (by omega), k + 1, rfl, HE45.sub ⟨(lkI rfl (by first | rfl | omega)), rfl, rfl, trivial⟩, (HH33.sel [] (by decide) rfl), (by first | omega | assumption | (simp; done) | simp_all), (by exact any_step (by omega) p21_1 (by rw [← xe23, ← findW_has]; simp; omega))⟩
    · refine wp_exit ?_
      refine (thn_exit (thn_exit (blk_hit ?_)))
      refine nrm ?_
      refine wp_seq ?_
      refine rg ?_
      refine pl_x HE18 HH10 (wt0 rfl) (x_assign rfl) rfl rfl fun a_46 HE47 => ?_
      refine wpList_nil ?_
      clear a_17 HE18
      refine nrm ?_
      refine wp_ret ?_
      refine ret1 HE47 rfl (rv_tmp rfl) ?_
      have hF : (normalW a0 a1) = true := by
        first | (unfold normalW; rw [any_hit (by omega : k < a0.length) (by rw [← xe0, ← findW_has]; simp; omega)]; rfl) | (unfold normalW; rw [show a0.any (fun r => hasW a1 r.1) = false from by have := p21_1; rwa [List.take_of_length_le (by omega)] at this]; rfl)
      exact ⟨by rw [hF] <;> rfl, HH10.below⟩

set_option maxRecDepth 100000 in
set_option maxHeartbeats 4000000 in
theorem spec_IsNormalWord (A0 : Option Addr) (c0 : Nat) (a0 : (List tRewrite)) (A1 : Option Addr) (c1 : Nat) (a1 : (List Int)) (w : World) (h0 : Sl eRewrite w (Old w) A0 c0 a0) (h1 : Sl eInt w (Old w) A1 c1 a1) :
    Calls Try.prog 21 #[.slice A0 a0.length c0, .slice A1 a1.length c1] w fun e w' => e = .returned (.bool (isNormalW a0 a1)) ∧ Below w.heap.size w w' := by
  have l0 := h0.len
  have l1 := h1.len
  have HH1 := Held.start Nob w
  refine enter (n := 16) Try.func21 rfl rfl rfl fun a_2 HE3 => ?_
  refine wp_seq ?_
  refine rg ?_
  refine pl_x HE3 HH1 (wt0 rfl) (x_assign rfl) rfl rfl fun a_4 HE5 => ?_
  refine wpList_nil ?_
  clear a_2 HE3
  refine nrm ?_
  refine wp_seq ?_
  refine rg ?_
  refine pl_x HE5 HH1 (wt0 rfl) (x_move rfl) rfl rfl fun a_6 HE7 => ?_
  refine pl fun K_8 hK9 => ?_
  refine st_call HE7 (wt0 rfl) rfl rfl rfl en_75 rfl rfl (spec_l10Is _ _ a0 _ (HH1.old h0)) fun e w' hr => ?_
  obtain ⟨rfl, rfl⟩ := hr
  refine ⟨_, rfl, fun a_10 HE11 => hK9 _ _ ?_⟩
  refine pl_x HE11 HH1 (wt0 rfl) (x_move rfl) rfl rfl fun a_12 HE13 => ?_
  rcases Bool.eq_false_or_eq_true ((validRew a0)) with hc22 | hc22
  · refine pl_x HE13 HH1 (wtT HE13 rfl rfl rfl hc22) (x_move rfl) rfl rfl fun a_14 HE15 => ?_
    refine pl fun K_16 hK17 => ?_
    refine st_call HE15 (wtT HE15 rfl rfl rfl hc22) rfl rfl rfl en_76 rfl rfl (spec_l03Is _ _ a1 _ (HH1.old h1)) fun e w' hr => ?_
    obtain ⟨rfl, rfl⟩ := hr
    refine ⟨_, rfl, fun a_18 HE19 => hK17 _ _ ?_⟩
    refine pl_x HE19 HH1 (wt0 rfl) (x_pickT rfl hc22 rfl) rfl rfl fun a_20 HE21 => ?_
    refine pl_x HE21 HH1 (wt0 rfl) (x_move rfl) rfl rfl fun a_22 HE23 => ?_
    rcases Bool.eq_false_or_eq_true ((isWord a1)) with hc24 | hc24
    · refine pl_x HE23 HH1 (wtT HE23 rfl rfl rfl hc24) (x_move rfl) rfl rfl fun a_24 HE25 => ?_
      refine pl_x HE25 HH1 (wtT HE25 rfl rfl rfl hc24) (x_move rfl) rfl rfl fun a_26 HE27 => ?_
      refine pl fun K_28 hK29 => ?_
      refine st_call HE27 (wtT HE27 rfl rfl rfl hc24) rfl rfl rfl en_77 rfl rfl (spec_l10Normal _ _ a0 _ _ a1 _ (HH1.old h0) (HH1.old h1) (by exact validRew_len ‹_›) (by exact isWord_len ‹_›)) fun e w' hr => ?_
      obtain ⟨rfl, hbr25⟩ := hr
      have HH30 := HH1.on hbr25
      refine ⟨_, rfl, fun a_31 HE32 => hK29 _ _ ?_⟩
      refine pl_x HE32 HH30 (wt0 rfl) (x_pickT rfl hc24 rfl) rfl rfl fun a_33 HE34 => ?_
      refine pl_x HE34 HH30 (wt0 rfl) (x_assign rfl) rfl rfl fun a_35 HE36 => ?_
      refine wpList_nil ?_
      clear a_4 HE5 a_6 HE7 a_10 HE11 a_12 HE13 K_8 hK9 a_14 HE15 a_18 HE19 a_20 HE21 a_22 HE23 a_24 HE25 K_16 hK17 HH1 a_26 HE27 a_31 HE32 a_33 HE34 hK29 K_28
      refine nrm ?_
      refine wp_ret ?_
      refine ret1 HE36 rfl (rv_tmp rfl) ?_
      have hF : (isNormalW a0 a1) = (normalW a0 a1) := by
        first | rfl | (simp [isNormalW, hc22, hc24]; done) | (simp [isNormalW, hc22, hc24]; omega) | grind [isNormalW]
      exact ⟨by rw [hF] <;> rfl, HH30.below⟩
    · refine pl_no HE23 (wtF HE23 rfl rfl rfl hc24) rfl rfl fun a_37 HE38 => ?_
      refine pl_no HE38 (wtF HE38 rfl rfl rfl hc24) rfl rfl fun a_39 HE40 => ?_
      refine pl_no HE40 (wtF HE40 rfl rfl rfl hc24) rfl rfl fun a_41 HE42 => ?_
      refine pl_x HE42 HH1 (wt0 rfl) (x_pickF rfl hc24 rfl) rfl rfl fun a_43 HE44 => ?_
      refine pl_x HE44 HH1 (wt0 rfl) (x_assign rfl) rfl rfl fun a_45 HE46 => ?_
      refine wpList_nil ?_
      clear a_4 HE5 a_6 HE7 a_10 HE11 a_12 HE13 K_8 hK9 a_14 HE15 a_18 HE19 a_20 HE21 a_22 HE23 a_37 HE38 a_39 HE40 a_41 HE42 a_43 HE44 hK17 K_16
      refine nrm ?_
      refine wp_ret ?_
      refine ret1 HE46 rfl (rv_tmp rfl) ?_
      have hF : (isNormalW a0 a1) = false := by
        first | rfl | (simp [isNormalW, hc22, hc24]; done) | (simp [isNormalW, hc22, hc24]; omega) | grind [isNormalW]
      exact ⟨by rw [hF] <;> rfl, HH1.below⟩
  · refine pl_no HE13 (wtF HE13 rfl rfl rfl hc22) rfl rfl fun a_47 HE48 => ?_
    refine pl_no HE48 (wtF HE48 rfl rfl rfl hc22) rfl rfl fun a_49 HE50 => ?_
    refine pl_x HE50 HH1 (wt0 rfl) (x_pickF rfl hc22 rfl) rfl rfl fun a_51 HE52 => ?_
    refine pl_x HE52 HH1 (wt0 rfl) (x_move rfl) rfl rfl fun a_53 HE54 => ?_
    refine pl_no HE54 (wtF HE54 rfl rfl rfl rfl) rfl rfl fun a_55 HE56 => ?_
    refine pl_no HE56 (wtF HE56 rfl rfl rfl rfl) rfl rfl fun a_57 HE58 => ?_
    refine pl_no HE58 (wtF HE58 rfl rfl rfl rfl) rfl rfl fun a_59 HE60 => ?_
    refine pl_x HE60 HH1 (wt0 rfl) (x_pickF rfl rfl rfl) rfl rfl fun a_61 HE62 => ?_
    refine pl_x HE62 HH1 (wt0 rfl) (x_assign rfl) rfl rfl fun a_63 HE64 => ?_
    refine wpList_nil ?_
    clear a_4 HE5 a_6 HE7 a_10 HE11 a_12 HE13 a_47 HE48 a_49 HE50 a_51 HE52 a_53 HE54 a_55 HE56 a_57 HE58 a_59 HE60 a_61 HE62 hK9 K_8
    refine nrm ?_
    refine wp_ret ?_
    refine ret1 HE64 rfl (rv_tmp rfl) ?_
    have hF : (isNormalW a0 a1) = false := by
      first | rfl | (simp [isNormalW, hc22]; done) | (simp [isNormalW, hc22]; omega) | grind [isNormalW]
    exact ⟨by rw [hF] <;> rfl, HH1.below⟩

set_option maxRecDepth 100000 in
set_option maxHeartbeats 4000000 in
theorem impl_isNormalWord1 (es0 : List Value) (a0 : tRewrite) (p1 : Nat) (es1 : List Value) (a1 : (List Int)) (w : World) (h0 : eRewrite.R w (Old w) es0 a0) (h1 : (eSl eInt).R w (Old w) es1 a1) (hq1 : ∀ j v, es1[j]? = some v → w.cell? ⟨p1, 0 + j, none⟩ = some v) (s0 : a0.1.length ≤ 1000000000) (s1 : a1.length ≤ 1000000000) :
    Calls Try.prog 149 #[.agg es0.toArray, .pointer (some ⟨p1, 0, none⟩)] w fun e w' => e = .returned (.bool ((fun r w => hasW w r.1) a0 a1)) ∧ Below w.heap.size w w' := by
  have H0 := h0
  obtain ⟨Az0_0, cz0_0, Az0_1, cz0_1, rfl, gz0_0, gz0_1⟩ := shape_Rewrite h0
  have lz0_0 := gz0_0.len
  have lz0_1 := gz0_1.len
  have H1 := h1
  obtain ⟨Az1, cz1, rfl, gz1⟩ := h1
  have lz1 := gz1.len
  have HH1 := Held.start Nob w
  refine enter (n := 10) Try.func149 rfl rfl rfl fun a_2 HE3 => ?_
  refine wp_seq ?_
  refine rg ?_
  refine pl fun K_4 hK5 => ?_
  refine st_box HE3 HH1 rfl rfl (wt0 rfl) rfl fun q21 a_6 w' HE7 HH8 => hK5 _ _ ?_
  refine pl_x HE7 HH8 (wt0 rfl) (x_assign rfl) rfl rfl fun a_9 HE10 => ?_
  refine wpList_nil ?_
  clear a_2 HE3 HH1 a_6 HE7 hK5 K_4
  refine nrm ?_
  refine wp_seq ?_
  refine rg ?_
  refine pl_x HE10 HH8 (wt0 rfl) (x_load1 tv_31 rfl (c_old (hq1 0 _ rfl))) rfl rfl fun a_11 HE12 => ?_
  refine pl_x HE12 HH8 (wt0 rfl) (x_fieldAddr fa_105_0 rfl) rfl rfl fun a_13 HE14 => ?_
  refine pl_x HE14 HH8 (wt0 rfl) (x_load1 tv_31 rfl (c_blk 0 rfl rfl)) rfl rfl fun a_15 HE16 => ?_
  refine pl fun K_17 hK18 => ?_
  refine st_call HE16 (wt0 rfl) rfl rfl rfl en_150 rfl rfl (impl_occurrences _ _ a1 _ _ a0.1 _ (HH8.old gz1) (HH8.old gz0_0) (by omega) (by omega)) fun e w' hr => ?_
  obtain ⟨Ar22_0, cr22_0, rfl, hor22_0, hbr22⟩ := hr
  obtain ⟨Sr22, HH19⟩ := HH8.newS hbr22 hor22_0
  refine ⟨_, rfl, fun a_20 HE21 => hK18 _ _ ?_⟩
  refine pl_x HE21 HH19 (wt0 rfl) (x_len Try.underlying31 rfl) rfl rfl fun a_22 HE23 => ?_
  refine pl_x HE23 HH19 (wt0 rfl) (x_gtr rfl rfl) rfl rfl fun a_24 HE25 => ?_
  refine pl_x HE25 HH19 (wt0 rfl) (x_assign rfl) rfl rfl fun a_26 HE27 => ?_
  refine wpList_nil ?_
  clear a_9 HE10 a_11 HE12 a_13 HE14 HH8 a_15 HE16 a_20 HE21 a_22 HE23 a_24 HE25 hK18 K_17
  refine nrm ?_
  refine wp_ret ?_
  refine ret1 HE27 rfl (rv_tmp rfl) ?_
  have hF : ((fun r w => hasW w r.1) a0 a1) = decide (0 < ((occ a1 a0.1).length : Int)) := by
    show hasW _ _ = _; unfold hasW; simp
  exact ⟨by rw [hF] <;> rfl, HH19.below⟩

set_option maxRecDepth 100000 in
set_option maxHeartbeats 4000000 in
theorem impl_isNormalWord (A0 : Option Addr) (c0 : Nat) (a0 : (List tRewrite)) (A1 : Option Addr) (c1 : Nat) (a1 : (List Int)) (w : World) (h0 : Sl eRewrite w (Old w) A0 c0 a0) (h1 : Sl eInt w (Old w) A1 c1 a1) (s0 : ∀ r ∈ a0, r.1.length ≤ 1000000000) (s1 : a1.length ≤ 1000000000) :
    Calls Try.prog 81 #[.slice A0 a0.length c0, .slice A1 a1.length c1] w fun e w' => e = .returned (.bool (normalW a0 a1)) ∧ Below w.heap.size w w' := by
  have l0 := h0.len
  have l1 := h1.len
  have HH1 := Held.start Nob w
  refine enter (n := 9) Try.func81 rfl rfl rfl fun a_2 HE3 => ?_
  refine wp_seq ?_
  refine rg ?_
  refine pl fun K_4 hK5 => ?_
  refine st_box HE3 HH1 rfl rfl (wt0 rfl) rfl fun q21 a_6 w' HE7 HH8 => hK5 _ _ ?_
  refine pl_x HE7 HH8 (wt0 rfl) (x_assign rfl) rfl rfl fun a_9 HE10 => ?_
  refine wpList_nil ?_
  clear a_2 HE3 HH1 a_6 HE7 hK5 K_4
  refine nrm ?_
  refine wp_seq ?_
  refine rg ?_
  refine pl_x HE10 HH8 (wt0 rfl) (x_move rfl) rfl rfl fun a_11 HE12 => ?_
  refine pl_x HE12 HH8 (wt0 rfl) (x_makeFunc rfl rfl) rfl rfl fun a_13 HE14 => ?_
  refine pl fun K_15 hK16 => ?_
  have hcl := ContainsFunc_Rewrite (fun r => hasW a1 r.1) 149 #[.pointer (some ⟨q21, 0, none⟩)] _ _ a0 _ (HH8.old h0) en_149 (fun W x es hx hb hR => impl_isNormalWord1 es x _ [.slice A1 (a1.length) c1] a1 W hR (⟨_, _, rfl, ((HH8.old h1)).on hb⟩) (HH8.capB 0 rfl hb) (by exact s0 x hx) (by exact s1))
  refine st_call HE14 (wt0 rfl) rfl rfl rfl en_145 rfl rfl hcl fun e w' hr => ?_
  clear hcl
  obtain ⟨rfl, hbq⟩ := hr
  have HH17 := HH8.on hbq
  clear hbq
  refine ⟨_, rfl, fun a_18 HE19 => hK16 _ _ ?_⟩
  refine pl_x HE19 HH17 (wt0 rfl) (x_not rfl) rfl rfl fun a_20 HE21 => ?_
  refine pl_x HE21 HH17 (wt0 rfl) (x_assign rfl) rfl rfl fun a_22 HE23 => ?_
  refine wpList_nil ?_
  clear a_9 HE10 a_11 HE12 HH8 a_13 HE14 a_18 HE19 a_20 HE21 hK16 K_15
  refine nrm ?_
  refine wp_ret ?_
  refine ret1 HE23 rfl (rv_tmp rfl) ?_
  have hF : (normalW a0 a1) = !(a0.any (fun r => hasW a1 r.1)) := by
    first | rfl | (simp [normalW]; done) | (simp [normalW]; omega) | grind [normalW]
  exact ⟨by rw [hF] <;> rfl, HH17.below⟩

set_option maxRecDepth 100000 in
set_option maxHeartbeats 4000000 in
theorem impl_IsNormalWord (A0 : Option Addr) (c0 : Nat) (a0 : (List tRewrite)) (A1 : Option Addr) (c1 : Nat) (a1 : (List Int)) (w : World) (h0 : Sl eRewrite w (Old w) A0 c0 a0) (h1 : Sl eInt w (Old w) A1 c1 a1) :
    Calls Try.prog 24 #[.slice A0 a0.length c0, .slice A1 a1.length c1] w fun e w' => e = .returned (.bool (isNormalW a0 a1)) ∧ Below w.heap.size w w' := by
  have l0 := h0.len
  have l1 := h1.len
  have HH1 := Held.start Nob w
  refine enter (n := 16) Try.func24 rfl rfl rfl fun a_2 HE3 => ?_
  refine wp_seq ?_
  refine rg ?_
  refine pl_x HE3 HH1 (wt0 rfl) (x_assign rfl) rfl rfl fun a_4 HE5 => ?_
  refine wpList_nil ?_
  clear a_2 HE3
  refine nrm ?_
  refine wp_seq ?_
  refine rg ?_
  refine pl_x HE5 HH1 (wt0 rfl) (x_move rfl) rfl rfl fun a_6 HE7 => ?_
  refine pl fun K_8 hK9 => ?_
  refine st_call HE7 (wt0 rfl) rfl rfl rfl en_79 rfl rfl (impl_ValidRewrites _ _ a0 _ (HH1.old h0)) fun e w' hr => ?_
  obtain ⟨rfl, hbr21⟩ := hr
  have HH10 := HH1.on hbr21
  refine ⟨_, rfl, fun a_11 HE12 => hK9 _ _ ?_⟩
  refine pl_x HE12 HH10 (wt0 rfl) (x_move rfl) rfl rfl fun a_13 HE14 => ?_
  rcases Bool.eq_false_or_eq_true ((validRew a0)) with hc22 | hc22
  · refine pl_x HE14 HH10 (wtT HE14 rfl rfl rfl hc22) (x_move rfl) rfl rfl fun a_15 HE16 => ?_
    refine pl fun K_17 hK18 => ?_
    refine st_call HE16 (wtT HE16 rfl rfl rfl hc22) rfl rfl rfl en_80 rfl rfl (impl_IsWord _ _ a1 _ (HH10.old h1)) fun e w' hr => ?_
    obtain ⟨rfl, rfl⟩ := hr
    refine ⟨_, rfl, fun a_19 HE20 => hK18 _ _ ?_⟩
    refine pl_x HE20 HH10 (wt0 rfl) (x_pickT rfl hc22 rfl) rfl rfl fun a_21 HE22 => ?_
    refine pl_x HE22 HH10 (wt0 rfl) (x_move rfl) rfl rfl fun a_23 HE24 => ?_
    rcases Bool.eq_false_or_eq_true ((isWord a1)) with hc24 | hc24
    · refine pl_x HE24 HH10 (wtT HE24 rfl rfl rfl hc24) (x_move rfl) rfl rfl fun a_25 HE26 => ?_
      refine pl_x HE26 HH10 (wtT HE26 rfl rfl rfl hc24) (x_move rfl) rfl rfl fun a_27 HE28 => ?_
      refine pl fun K_29 hK30 => ?_
      refine st_call HE28 (wtT HE28 rfl rfl rfl hc24) rfl rfl rfl en_81 rfl rfl (impl_isNormalWord _ _ a0 _ _ a1 _ (HH10.old h0) (HH10.old h1) (by exact validRew_len ‹_›) (by exact isWord_len ‹_›)) fun e w' hr => ?_
      obtain ⟨rfl, hbr25⟩ := hr
      have HH31 := HH10.on hbr25
      refine ⟨_, rfl, fun a_32 HE33 => hK30 _ _ ?_⟩
      refine pl_x HE33 HH31 (wt0 rfl) (x_pickT rfl hc24 rfl) rfl rfl fun a_34 HE35 => ?_
      refine pl_x HE35 HH31 (wt0 rfl) (x_assign rfl) rfl rfl fun a_36 HE37 => ?_
      refine wpList_nil ?_
      clear a_4 HE5 HH1 a_6 HE7 a_11 HE12 a_13 HE14 K_8 hK9 a_15 HE16 a_19 HE20 a_21 HE22 a_23 HE24 a_25 HE26 K_17 hK18 HH10 a_27 HE28 a_32 HE33 a_34 HE35 hK30 K_29
      refine nrm ?_
      refine wp_ret ?_
      refine ret1 HE37 rfl (rv_tmp rfl) ?_
      have hF : (isNormalW a0 a1) = (normalW a0 a1) := by
        first | rfl | (simp [isNormalW, hc22, hc24]; done) | (simp [isNormalW, hc22, hc24]; omega) | grind [isNormalW]
      exact ⟨by rw [hF] <;> rfl, HH31.below⟩
    · refine pl_no HE24 (wtF HE24 rfl rfl rfl hc24) rfl rfl fun a_38 HE39 => ?_
      refine pl_no HE39 (wtF HE39 rfl rfl rfl hc24) rfl rfl fun a_40 HE41 => ?_
      refine pl_no HE41 (wtF HE41 rfl rfl rfl hc24) rfl rfl fun a_42 HE43 => ?_
      refine pl_x HE43 HH10 (wt0 rfl) (x_pickF rfl hc24 rfl) rfl rfl fun a_44 HE45 => ?_
      refine pl_x HE45 HH10 (wt0 rfl) (x_assign rfl) rfl rfl fun a_46 HE47 => ?_
      refine wpList_nil ?_
      clear a_4 HE5 HH1 a_6 HE7 a_11 HE12 a_13 HE14 K_8 hK9 a_15 HE16 a_19 HE20 a_21 HE22 a_23 HE24 a_38 HE39 a_40 HE41 a_42 HE43 a_44 HE45 hK18 K_17
      refine nrm ?_
      refine wp_ret ?_
      refine ret1 HE47 rfl (rv_tmp rfl) ?_
      have hF : (isNormalW a0 a1) = false := by
        first | rfl | (simp [isNormalW, hc22, hc24]; done) | (simp [isNormalW, hc22, hc24]; omega) | grind [isNormalW]
      exact ⟨by rw [hF] <;> rfl, HH10.below⟩
  · refine pl_no HE14 (wtF HE14 rfl rfl rfl hc22) rfl rfl fun a_48 HE49 => ?_
    refine pl_no HE49 (wtF HE49 rfl rfl rfl hc22) rfl rfl fun a_50 HE51 => ?_
    refine pl_x HE51 HH10 (wt0 rfl) (x_pickF rfl hc22 rfl) rfl rfl fun a_52 HE53 => ?_
    refine pl_x HE53 HH10 (wt0 rfl) (x_move rfl) rfl rfl fun a_54 HE55 => ?_
    refine pl_no HE55 (wtF HE55 rfl rfl rfl rfl) rfl rfl fun a_56 HE57 => ?_
    refine pl_no HE57 (wtF HE57 rfl rfl rfl rfl) rfl rfl fun a_58 HE59 => ?_
    refine pl_no HE59 (wtF HE59 rfl rfl rfl rfl) rfl rfl fun a_60 HE61 => ?_
    refine pl_x HE61 HH10 (wt0 rfl) (x_pickF rfl rfl rfl) rfl rfl fun a_62 HE63 => ?_
    refine pl_x HE63 HH10 (wt0 rfl) (x_assign rfl) rfl rfl fun a_64 HE65 => ?_
    refine wpList_nil ?_
    clear a_4 HE5 HH1 a_6 HE7 a_11 HE12 a_13 HE14 a_48 HE49 a_50 HE51 a_52 HE53 a_54 HE55 a_56 HE57 a_58 HE59 a_60 HE61 a_62 HE63 hK9 K_8
    refine nrm ?_
    refine wp_ret ?_
    refine ret1 HE65 rfl (rv_tmp rfl) ?_
    have hF : (isNormalW a0 a1) = false := by
      first | rfl | (simp [isNormalW, hc22]; done) | (simp [isNormalW, hc22]; omega) | grind [isNormalW]
    exact ⟨by rw [hF] <;> rfl, HH10.below⟩

set_option maxRecDepth 100000 in
set_option maxHeartbeats 8000000 in
theorem law_IsNormalWord (A0 : Option Addr) (c0 : Nat) (a0 : (List tRewrite)) (A1 : Option Addr) (c1 : Nat) (a1 : (List Int)) (w : World) (h0 : Sl eRewrite w (Old w) A0 c0 a0) (h1 : Sl eInt w (Old w) A1 c1 a1) :
    Calls Try.prog 4 #[.slice A0 a0.length c0, .slice A1 a1.length c1] w fun e w' => e = .returned (.bool true) ∧ Below w.heap.size w w' := by
  have hlen0 := h0.len
  have H0 := Lib.hid h0; clear h0
  have hlen1 := h1.len
  have H1 := Lib.hid h1; clear h1
  have HBw := Lib.hid (Below.refl w.heap.size w)
  by_cases l1 : 1048576 < a1.length
  · have l1' : (1048576 : Int) < (a1.length : Int) := by omega
    go_enter Try.func4, Try.ntmps4
    go_wp2_with fail
    go_ret
    exact ⟨rfl, by go_grown⟩
  have l1' : ¬ (1048576 : Int) < (a1.length : Int) := by omega
  by_cases t0 : (1048576 : Int) - (cost_SRewrite a0 : Nat) < 0
  · go_enter Try.func4, Try.ntmps4
    go_wp2_with fail
    refine (sz_RewriteS _ _ a0 _ _ (by exact H0.out.on HBw.out) (by omega) (by omega)).mono ?_
    rintro e z0 ⟨rfl, hb⟩
    rw [left_neg (by omega)]
    have hbp : Below w.heap.size w z0 := hb
    have Zz0 : Hid (w.heap.size + 0 ≤ z0.heap.size) := by have h1 := hb.size; (try simp only [World.size_alloc, World.size_drew] at h1); show _ ≤ _; omega
    have HBz0 := Lib.hid (below_trans HBw.out hbp)
    clear hbp hb
    go_wp2
    go_ret
    exact ⟨rfl, HBz0.out⟩
  have HC0 : Hid (cost_SRewrite a0 ≤ 1048576) := by show _ ≤ _; omega
  have HC1 : Hid (cost_L a1 ≤ 1048576) := by show _ ≤ _; unfold cost_L; omega
  go_enter Try.func4, Try.ntmps4
  go_wp2_with fail
  refine (sz_RewriteS _ _ a0 _ _ (by exact H0.out.on HBw.out) (by omega) (by omega)).mono ?_
  rintro e z0 ⟨rfl, hb⟩
  rw [left_pos (by omega)]
  have hbp : Below w.heap.size w z0 := hb
  have Zz0 : Hid (w.heap.size + 0 ≤ z0.heap.size) := by have h1 := hb.size; (try simp only [World.size_alloc, World.size_drew] at h1); show _ ≤ _; omega
  have HBz0 := Lib.hid (below_trans HBw.out hbp)
  clear hbp hb
  go_wp2_with fail
  refine (to_RewriteS _ _ a0 _ (by exact H0.out.on HBz0.out) HC0.out).mono ?_
  rintro e ws0 ⟨As0, cs0, rfl, hs, hb⟩
  have HSs0 := Lib.hid (hs.more (Iv.mono (l' := z0.heap.size) (h' := ws0.heap.size) (by first | exact Nat.le_refl _ | (simp only [World.size_alloc, World.size_drew]; omega) | (simp; omega)) (Nat.le_refl _))); clear hs
  have hbp : Below z0.heap.size z0 ws0 := hb
  have Zws0 : Hid (z0.heap.size + 0 ≤ ws0.heap.size) := by have h1 := hb.size; (try simp only [World.size_alloc, World.size_drew] at h1); show _ ≤ _; omega
  have HBws0 := Lib.hid (below_trans HBz0.out hbp)
  clear hbp hb
  go_wp2_with fail
  refine (to_Int64S _ _ a1 _ (by exact H1.out.on HBws0.out) HC1.out).mono ?_
  rintro e ws1 ⟨As1, cs1, rfl, hs, hb⟩
  have HSs1 := Lib.hid (hs.more (Iv.mono (l' := ws0.heap.size) (h' := ws1.heap.size) (by first | exact Nat.le_refl _ | (simp only [World.size_alloc, World.size_drew]; omega) | (simp; omega)) (Nat.le_refl _))); clear hs
  have hbp : Below ws0.heap.size ws0 ws1 := hb
  have Zws1 : Hid (ws0.heap.size + 0 ≤ ws1.heap.size) := by have h1 := hb.size; (try simp only [World.size_alloc, World.size_drew] at h1); show _ ≤ _; omega
  have HBws1 := Lib.hid (below_trans HBws0.out hbp)
  have HSs0_ := Lib.hid (HSs0.out.keep (fun b hS => hbp.block b (by have q1 := hS.1; have q2 := hS.2; have zz0 := Zz0.out; have zws0 := Zws0.out; omega))); clear HSs0; have HSs0 := HSs0_; clear HSs0_
  clear hbp hb
  go_wp2_with fail
  refine (spec_IsNormalWord _ _ a0 _ _ a1 _ (by exact (HSs0.out.sl.more (fun b hS => (by have q2 := hS.2; show _ < _; have zz0 := Zz0.out; have zws0 := Zws0.out; have zws1 := Zws1.out; omega)))) (by exact (HSs1.out.sl.more (fun b hS => (by have q2 := hS.2; show _ < _; have zz0 := Zz0.out; have zws0 := Zws0.out; have zws1 := Zws1.out; omega))))).mono ?_
  rintro e v0 ⟨rfl, hb⟩
  clear HSs0
  clear HSs1
  have hbp : Below ws1.heap.size ws1 v0 := hb
  have Zv0 : Hid (ws1.heap.size + 0 ≤ v0.heap.size) := by have h1 := hb.size; (try simp only [World.size_alloc, World.size_drew] at h1); show _ ≤ _; omega
  have HBv0 := Lib.hid (below_trans HBws1.out hbp)
  clear hbp hb
  have HVv0 := Lib.hid (Below.refl v0.heap.size v0)
  go_wp2_with fail
  refine (to_RewriteS _ _ a0 _ (by exact H0.out.on HBv0.out) HC0.out).mono ?_
  rintro e wx0 ⟨Ax0, cx0, rfl, hs, hb⟩
  have HSx0 := Lib.hid (hs.more (Iv.mono (l' := v0.heap.size) (h' := wx0.heap.size) (by first | exact Nat.le_refl _ | (simp only [World.size_alloc, World.size_drew]; omega) | (simp; omega)) (Nat.le_refl _))); clear hs
  have hbp : Below v0.heap.size v0 wx0 := hb
  have Zwx0 : Hid (v0.heap.size + 0 ≤ wx0.heap.size) := by have h1 := hb.size; (try simp only [World.size_alloc, World.size_drew] at h1); show _ ≤ _; omega
  have HBwx0 := Lib.hid (below_trans HBv0.out hbp)
  have HVwx0 := Lib.hid (HVv0.out.trans (hbp.mono HVv0.out.size))
  clear hbp hb
  go_wp2_with fail
  refine (to_Int64S _ _ a1 _ (by exact H1.out.on HBwx0.out) HC1.out).mono ?_
  rintro e wx1 ⟨Ax1, cx1, rfl, hs, hb⟩
  have HSx1 := Lib.hid (hs.more (Iv.mono (l' := wx0.heap.size) (h' := wx1.heap.size) (by first | exact Nat.le_refl _ | (simp only [World.size_alloc, World.size_drew]; omega) | (simp; omega)) (Nat.le_refl _))); clear hs
  have hbp : Below wx0.heap.size wx0 wx1 := hb
  have Zwx1 : Hid (wx0.heap.size + 0 ≤ wx1.heap.size) := by have h1 := hb.size; (try simp only [World.size_alloc, World.size_drew] at h1); show _ ≤ _; omega
  have HBwx1 := Lib.hid (below_trans HBwx0.out hbp)
  have HVwx1 := Lib.hid (HVwx0.out.trans (hbp.mono HVwx0.out.size))
  have HSx0_ := Lib.hid (HSx0.out.keep (fun b hS => hbp.block b (by have q1 := hS.1; have q2 := hS.2; have zz0 := Zz0.out; have zws0 := Zws0.out; have zws1 := Zws1.out; have zv0 := Zv0.out; have zwx0 := Zwx0.out; omega))); clear HSx0; have HSx0 := HSx0_; clear HSx0_
  clear hbp hb
  go_wp2_with fail
  refine (impl_IsNormalWord _ _ a0 _ _ a1 _ (by exact (HSx0.out.sl.more (fun b hS => (by have q2 := hS.2; show _ < _; have zz0 := Zz0.out; have zws0 := Zws0.out; have zws1 := Zws1.out; have zv0 := Zv0.out; have zwx0 := Zwx0.out; have zwx1 := Zwx1.out; omega)))) (by exact (HSx1.out.sl.more (fun b hS => (by have q2 := hS.2; show _ < _; have zz0 := Zz0.out; have zws0 := Zws0.out; have zws1 := Zws1.out; have zv0 := Zv0.out; have zwx0 := Zwx0.out; have zwx1 := Zwx1.out; omega))))).mono ?_
  rintro e vg ⟨rfl, hb⟩
  have hbp : Below wx1.heap.size wx1 vg := hb
  have Zvg : Hid (wx1.heap.size + 0 ≤ vg.heap.size) := by have h1 := hb.size; (try simp only [World.size_alloc, World.size_drew] at h1); show _ ≤ _; omega
  have HBvg := Lib.hid (below_trans HBwx1.out hbp)
  have HVvg := Lib.hid (HVwx1.out.trans (hbp.mono HVwx1.out.size))
  have HSx0_ := Lib.hid (HSx0.out.keep (fun b hS => hbp.block b (by have q1 := hS.1; have q2 := hS.2; have zz0 := Zz0.out; have zws0 := Zws0.out; have zws1 := Zws1.out; have zv0 := Zv0.out; have zwx0 := Zwx0.out; have zwx1 := Zwx1.out; omega))); clear HSx0; have HSx0 := HSx0_; clear HSx0_
  have HSx1_ := Lib.hid (HSx1.out.keep (fun b hS => hbp.block b (by have q1 := hS.1; have q2 := hS.2; have zz0 := Zz0.out; have zws0 := Zws0.out; have zws1 := Zws1.out; have zv0 := Zv0.out; have zwx0 := Zwx0.out; have zwx1 := Zwx1.out; omega))); clear HSx1; have HSx1 := HSx1_; clear HSx1_
  clear hbp hb
  go_wp2_with fail
  refine (to_RewriteS _ _ a0 _ (by exact H0.out.on HBvg.out) HC0.out).mono ?_
  rintro e wy0 ⟨Ay0, cy0, rfl, hs, hb⟩
  have HSy0 := Lib.hid (hs.more (Iv.mono (l' := vg.heap.size) (h' := wy0.heap.size) (by first | exact Nat.le_refl _ | (simp only [World.size_alloc, World.size_drew]; omega) | (simp; omega)) (Nat.le_refl _))); clear hs
  have hbp : Below vg.heap.size vg wy0 := hb
  have Zwy0 : Hid (vg.heap.size + 0 ≤ wy0.heap.size) := by have h1 := hb.size; (try simp only [World.size_alloc, World.size_drew] at h1); show _ ≤ _; omega
  have HBwy0 := Lib.hid (below_trans HBvg.out hbp)
  have HVwy0 := Lib.hid (HVvg.out.trans (hbp.mono HVvg.out.size))
  have HSx0_ := Lib.hid (HSx0.out.keep (fun b hS => hbp.block b (by have q1 := hS.1; have q2 := hS.2; have zz0 := Zz0.out; have zws0 := Zws0.out; have zws1 := Zws1.out; have zv0 := Zv0.out; have zwx0 := Zwx0.out; have zwx1 := Zwx1.out; have zvg := Zvg.out; omega))); clear HSx0; have HSx0 := HSx0_; clear HSx0_
  have HSx1_ := Lib.hid (HSx1.out.keep (fun b hS => hbp.block b (by have q1 := hS.1; have q2 := hS.2; have zz0 := Zz0.out; have zws0 := Zws0.out; have zws1 := Zws1.out; have zv0 := Zv0.out; have zwx0 := Zwx0.out; have zwx1 := Zwx1.out; have zvg := Zvg.out; omega))); clear HSx1; have HSx1 := HSx1_; clear HSx1_
  clear hbp hb
  go_wp2_with fail
  refine (eq_SRewrite_c _ _ _ _ a0 a0 _ (by exact (HSx0.out.sl.more (fun b hS => (by have q2 := hS.2; show _ < _; have zz0 := Zz0.out; have zws0 := Zws0.out; have zws1 := Zws1.out; have zv0 := Zv0.out; have zwx0 := Zwx0.out; have zwx1 := Zwx1.out; have zvg := Zvg.out; have zwy0 := Zwy0.out; omega)))) (by exact (HSy0.out.sl.more (fun b hS => (by have q2 := hS.2; show _ < _; have zz0 := Zz0.out; have zws0 := Zws0.out; have zws1 := Zws1.out; have zv0 := Zv0.out; have zwx0 := Zwx0.out; have zwx1 := Zwx1.out; have zvg := Zvg.out; have zwy0 := Zwy0.out; omega))))).mono ?_
  rintro e u0 ⟨rfl, hb⟩
  rw [eq_SRewrite_refl]
  clear HSy0
  have hbp : Below wy0.heap.size wy0 u0 := hb
  have Zu0 : Hid (wy0.heap.size + 0 ≤ u0.heap.size) := by have h1 := hb.size; (try simp only [World.size_alloc, World.size_drew] at h1); show _ ≤ _; omega
  have HBu0 := Lib.hid (below_trans HBwy0.out hbp)
  have HVu0 := Lib.hid (HVwy0.out.trans (hbp.mono HVwy0.out.size))
  have HSx0_ := Lib.hid (HSx0.out.keep (fun b hS => hbp.block b (by have q1 := hS.1; have q2 := hS.2; have zz0 := Zz0.out; have zws0 := Zws0.out; have zws1 := Zws1.out; have zv0 := Zv0.out; have zwx0 := Zwx0.out; have zwx1 := Zwx1.out; have zvg := Zvg.out; have zwy0 := Zwy0.out; omega))); clear HSx0; have HSx0 := HSx0_; clear HSx0_
  have HSx1_ := Lib.hid (HSx1.out.keep (fun b hS => hbp.block b (by have q1 := hS.1; have q2 := hS.2; have zz0 := Zz0.out; have zws0 := Zws0.out; have zws1 := Zws1.out; have zv0 := Zv0.out; have zwx0 := Zwx0.out; have zwx1 := Zwx1.out; have zvg := Zvg.out; have zwy0 := Zwy0.out; omega))); clear HSx1; have HSx1 := HSx1_; clear HSx1_
  clear hbp hb
  go_wp2_with fail
  refine (to_Int64S _ _ a1 _ (by exact H1.out.on HBu0.out) HC1.out).mono ?_
  rintro e wy1 ⟨Ay1, cy1, rfl, hs, hb⟩
  have HSy1 := Lib.hid (hs.more (Iv.mono (l' := u0.heap.size) (h' := wy1.heap.size) (by first | exact Nat.le_refl _ | (simp only [World.size_alloc, World.size_drew]; omega) | (simp; omega)) (Nat.le_refl _))); clear hs
  have hbp : Below u0.heap.size u0 wy1 := hb
  have Zwy1 : Hid (u0.heap.size + 0 ≤ wy1.heap.size) := by have h1 := hb.size; (try simp only [World.size_alloc, World.size_drew] at h1); show _ ≤ _; omega
  have HBwy1 := Lib.hid (below_trans HBu0.out hbp)
  have HVwy1 := Lib.hid (HVu0.out.trans (hbp.mono HVu0.out.size))
  have HSx0_ := Lib.hid (HSx0.out.keep (fun b hS => hbp.block b (by have q1 := hS.1; have q2 := hS.2; have zz0 := Zz0.out; have zws0 := Zws0.out; have zws1 := Zws1.out; have zv0 := Zv0.out; have zwx0 := Zwx0.out; have zwx1 := Zwx1.out; have zvg := Zvg.out; have zwy0 := Zwy0.out; have zu0 := Zu0.out; omega))); clear HSx0; have HSx0 := HSx0_; clear HSx0_
  have HSx1_ := Lib.hid (HSx1.out.keep (fun b hS => hbp.block b (by have q1 := hS.1; have q2 := hS.2; have zz0 := Zz0.out; have zws0 := Zws0.out; have zws1 := Zws1.out; have zv0 := Zv0.out; have zwx0 := Zwx0.out; have zwx1 := Zwx1.out; have zvg := Zvg.out; have zwy0 := Zwy0.out; have zu0 := Zu0.out; omega))); clear HSx1; have HSx1 := HSx1_; clear HSx1_
  clear hbp hb
  go_wp2_with fail
  refine (eq_L_c _ _ _ _ a1 a1 _ (by exact (HSx1.out.sl.more (fun b hS => (by have q2 := hS.2; show _ < _; have zz0 := Zz0.out; have zws0 := Zws0.out; have zws1 := Zws1.out; have zv0 := Zv0.out; have zwx0 := Zwx0.out; have zwx1 := Zwx1.out; have zvg := Zvg.out; have zwy0 := Zwy0.out; have zu0 := Zu0.out; have zwy1 := Zwy1.out; omega)))) (by exact (HSy1.out.sl.more (fun b hS => (by have q2 := hS.2; show _ < _; have zz0 := Zz0.out; have zws0 := Zws0.out; have zws1 := Zws1.out; have zv0 := Zv0.out; have zwx0 := Zwx0.out; have zwx1 := Zwx1.out; have zvg := Zvg.out; have zwy0 := Zwy0.out; have zu0 := Zu0.out; have zwy1 := Zwy1.out; omega))))).mono ?_
  rintro e u1 ⟨rfl, hb⟩
  rw [eq_L_refl]
  clear HSy1
  have hbp : Below wy1.heap.size wy1 u1 := hb
  have Zu1 : Hid (wy1.heap.size + 0 ≤ u1.heap.size) := by have h1 := hb.size; (try simp only [World.size_alloc, World.size_drew] at h1); show _ ≤ _; omega
  have HBu1 := Lib.hid (below_trans HBwy1.out hbp)
  have HVu1 := Lib.hid (HVwy1.out.trans (hbp.mono HVwy1.out.size))
  have HSx0_ := Lib.hid (HSx0.out.keep (fun b hS => hbp.block b (by have q1 := hS.1; have q2 := hS.2; have zz0 := Zz0.out; have zws0 := Zws0.out; have zws1 := Zws1.out; have zv0 := Zv0.out; have zwx0 := Zwx0.out; have zwx1 := Zwx1.out; have zvg := Zvg.out; have zwy0 := Zwy0.out; have zu0 := Zu0.out; have zwy1 := Zwy1.out; omega))); clear HSx0; have HSx0 := HSx0_; clear HSx0_
  have HSx1_ := Lib.hid (HSx1.out.keep (fun b hS => hbp.block b (by have q1 := hS.1; have q2 := hS.2; have zz0 := Zz0.out; have zws0 := Zws0.out; have zws1 := Zws1.out; have zv0 := Zv0.out; have zwx0 := Zwx0.out; have zwx1 := Zwx1.out; have zvg := Zvg.out; have zwy0 := Zwy0.out; have zu0 := Zu0.out; have zwy1 := Zwy1.out; omega))); clear HSx1; have HSx1 := HSx1_; clear HSx1_
  clear hbp hb
  go_wp2
  go_ret
  exact ⟨rfl, HBu1.out⟩

end Go.Proofs.Ytfcajgbehecfbaa
