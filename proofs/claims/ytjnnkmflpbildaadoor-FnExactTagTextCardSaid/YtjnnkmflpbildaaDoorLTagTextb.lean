/- What the proof of FnExactTagText needs: contracts of the functions that it reaches, each once. -/
import Derived.Test.YtjnnkmflpbildaaDoorProg
import Derived.Test.YtjnnkmflpbildaaDoorQMem
import Derived.Test.YtjnnkmflpbildaaDoorQOpen
import Derived.Test.YtjnnkmflpbildaaDoorLTagTexta
import Derived.WalkKit
import Derived.WalkSpells
import Derived.Below
import Derived.LoopTactic
import Derived.Outline
import Derived.Deep.QuietTactic
import Derived.BigQuiet
import Derived.Deep.LoopGhost
import Derived.Handy
import Derived.Lib.Hide
import Derived.Shelf.Abstract
import Derived.StillTailTactics
import Derived.OwnWalk
import Derived.Maps.AppendAt
import Derived.RegionTactic
import Derived.Deep.RegionHeld3
import Derived.IntWalk
import Derived.Deep.Upon
import Derived.Laws.OwnMore
import Derived.Maps.AppendAt
import Derived.Laws.BytesString
import Derived.Laws.Strings
import Derived.Lib.Bytes
import Derived.Lib.Strings
import Derived.Lib.FrozenHead
import Derived.Lib.RuneBytes
import Derived.Lib.LaidTab
import Derived.Laws.StructEq
import Derived.Lib.ItoaLen
import Derived.Lib.Join
import Derived.Shelf.Strconv.Itoa4
import Derived.Shelf.Strings.OnBuilder
import Derived.Shelf.Strings.BuilderK
import Derived.Shelf.Strings.BuilderRune
import Derived.Shelf.LaysM
import Derived.Ground.NamesProg
namespace Go.Proofs.YtjnnkmflpbildaaDoor
open Go.RowKit

theorem Held.unP {M : Nat → Prop} {w0 : World} {rs : List Res} {w : World} {α β : Type} {E : Enc α} {F : Enc β} {S : Nat → Prop} {v : Value} {cs : List Value} {x : α × β} (h1 : E.size = 1) (h : Held M w0 (rO (ePr E F) S (v :: cs) x :: rs) w) : ∃ S1 S2, Held M w0 (rO E S1 [v] x.1 :: rO F S2 cs x.2 :: rs) w := by
  obtain ⟨c1, c2, S1, S2, he, k1, k2, o1, o2⟩ := h.ok _ (List.mem_cons_self)
  have hl := E.len (E.read o1)
  rw [h1] at hl
  obtain ⟨u, rfl⟩ := List.length_eq_one_iff.1 hl
  simp at he
  obtain ⟨rfl, rfl⟩ := he
  have hs := List.pairwise_cons.1 h.sep
  refine ⟨S1, S2, h.chg, ?_, ?_, ?_⟩
  · intro r hr
    simp only [List.mem_cons] at hr
    rcases hr with rfl | rfl | hr
    · exact o1
    · exact o2
    · exact h.ok r (by simp [hr])
  · intro r hr b hb
    simp only [List.mem_cons] at hr
    rcases hr with rfl | rfl | hr
    · exact h.rng _ (List.mem_cons_self) b (k1 b hb).1
    · exact h.rng _ (List.mem_cons_self) b (k2 b hb)
    · exact h.rng r (by simp [hr]) b hb
  · refine List.pairwise_cons.2 ⟨fun r hr b hb hb' => ?_, List.pairwise_cons.2 ⟨fun r hr b hb hb' => hs.1 r hr b (k2 b hb) hb', hs.2⟩⟩
    rcases List.mem_cons.1 hr with rfl | hr
    · exact (k1 b hb).2 hb'
    · exact hs.1 r hr b (k1 b hb).1 hb'

/-- An owned slice with one element laid open: its cells es; what the element owns (T) is held apart. -/
def Foc {α : Type} (E : Enc α) (w : World) (S : Nat → Prop) (b off c : Nat) (xs : List α) (k : Nat) (es : List Value) : Prop :=
  k < xs.length ∧ xs.length ≤ c ∧ c ≤ maxLen ∧ S b ∧ es.length = E.size ∧ ∃ (t : TypeId) (cur : Array Value) (T : Nat → Nat → Prop), Blk w b t cur ∧ (∀ i m, T i m → S m ∧ m ≠ b) ∧ (∀ i j m, T i m → T j m → i = j) ∧
    (∀ j v, es[j]? = some v → cur[off + k * E.size + j]? = some v) ∧ ∀ (i : Nat) (x : α), i ≠ k → xs[i]? = some x → ∃ us, E.O w (T i) us x ∧ ∀ j v, us[j]? = some v → cur[off + i * E.size + j]? = some v

theorem Foc.keep {α : Type} {E : Enc α} {w w' : World} {S : Nat → Prop} {b off c : Nat} {xs : List α} {k : Nat} {es : List Value} (h : Foc E w S b off c xs k es) (hk : ∀ b, S b → w'.heap[b]? = w.heap[b]?) : Foc E w' S b off c xs k es := by
  obtain ⟨h1, h2, h3, h4, h5, t, cur, T, hB, hT, hd, hc, hr⟩ := h
  refine ⟨h1, h2, h3, h4, h5, t, cur, T, (hk b h4).trans hB, hT, hd, hc, fun i x hi hx => ?_⟩
  obtain ⟨us, q1, q2⟩ := hr i x hi hx
  exact ⟨us, E.okeep q1 fun m hm => hk m (hT i m hm).1, q2⟩

def rFoc {α : Type} (E : Enc α) (S : Nat → Prop) (b off c : Nat) (xs : List α) (k : Nat) (es : List Value) : Res := ⟨S, fun w => Foc E w S b off c xs k es, fun _ _ h hf => hf.keep h⟩

theorem Held.open {M : Nat → Prop} {w0 : World} {rs : List Res} {w : World} {α : Type} {E : Enc α} {S : Nat → Prop} {A : Option Addr} {c : Nat} {xs : List α} (h : Held M w0 (rSo E S A c xs :: rs) w) {k : Nat} (hk : k < xs.length) :
    ∃ b off es T, A = some ⟨b, off, none⟩ ∧ E.R w (Old w) es xs[k] ∧ (∀ m, T m → S m ∧ m ≠ b) ∧ Held M w0 (rFoc E (fun m => S m ∧ ¬ T m) b off c xs k es :: rO E T es xs[k] :: rs) w := by
  have hso := so_of_o (h.ok _ (List.mem_cons_self))
  have hrng := h.rng _ (List.mem_cons_self)
  obtain ⟨b, off, t, cur, T, hA, hb, hB, hT, hd, hc⟩ := hso.2.2 (by intro e; subst e; simp at hk)
  obtain ⟨es, h1, h2⟩ := hc k xs[k] (List.getElem?_eq_getElem hk)
  have hs := List.pairwise_cons.1 h.sep
  refine ⟨b, off, es, T k, hA, E.more (E.read h1) (fun m hm => (hrng m (hT k m hm).1).2), fun m hm => hT k m hm, h.chg, ?_, ?_, ?_⟩
  · intro r hr
    simp only [List.mem_cons] at hr
    rcases hr with rfl | rfl | hr
    · refine ⟨hk, hso.1, hso.2.1, ⟨hb, fun hm => (hT k b hm).2 rfl⟩, E.len (E.read h1), t, cur, fun i m => i ≠ k ∧ T i m, hB, fun i m hm => ⟨⟨(hT i m hm.2).1, fun hm' => hm.1 (hd i k m hm.2 hm')⟩, (hT i m hm.2).2⟩, fun i j m h3 h4 => hd i j m h3.2 h4.2, h2, fun i x hi hx => ?_⟩
      obtain ⟨us, q1, q2⟩ := hc i x hx
      exact ⟨us, E.omore q1 fun m hm => ⟨hi, hm⟩, q2⟩
    · exact h1
    · exact h.ok r (by simp [hr])
  · intro r hr m hm
    simp only [List.mem_cons] at hr
    rcases hr with rfl | rfl | hr
    · exact hrng m hm.1
    · exact hrng m (hT k m hm).1
    · exact h.rng r (by simp [hr]) m hm
  · refine List.pairwise_cons.2 ⟨fun r hr m hm hm' => ?_, List.pairwise_cons.2 ⟨fun r hr m hm hm' => hs.1 r hr m (hT k m hm).1 hm', hs.2⟩⟩
    rcases List.mem_cons.1 hr with rfl | hr
    · exact hm.2 hm'
    · exact hs.1 r hr m hm.1 hm'

theorem Held.shut {M : Nat → Prop} {w0 : World} {rs : List Res} {w : World} {α : Type} {E : Enc α} {S T : Nat → Prop} {b off c k : Nat} {xs : List α} {es : List Value} {y : α} (h : Held M w0 (rFoc E S b off c xs k es :: rO E T es y :: rs) w) : Held M w0 (rSo E (fun m => S m ∨ T m) (some ⟨b, off, none⟩) c (xs.set k y) :: rs) w := by
  refine h.join _ (fun hf ho hd => ?_) fun _ hb => hb
  obtain ⟨h1, h2, h3, h4, h5, t, cur, T', hB, hT, hd', hc, hr⟩ := hf
  refine oSl ⟨by rw [List.length_set]; exact h2, h3, fun _ => ⟨b, off, t, cur, fun i m => (i = k ∧ T m) ∨ (i ≠ k ∧ T' i m), rfl, .inl h4, hB, ?_, ?_, fun i x hx => ?_⟩⟩
  · rintro i m (⟨_, hm⟩ | ⟨_, hm⟩)
    · exact ⟨.inr hm, fun e => hd b h4 (e ▸ hm)⟩
    · exact ⟨.inl (hT i m hm).1, (hT i m hm).2⟩
  · rintro i j m (⟨hi, hm⟩ | ⟨hi, hm⟩) (⟨hj, hm'⟩ | ⟨hj, hm'⟩)
    · rw [hi, hj]
    · exact absurd hm (hd m (hT j m hm').1)
    · exact absurd hm' (hd m (hT i m hm).1)
    · exact hd' i j m hm hm'
  · by_cases e : i = k
    · subst e
      rw [List.getElem?_set_self h1] at hx
      simp at hx; subst hx
      exact ⟨es, E.omore ho fun m hm => .inl ⟨rfl, hm⟩, hc⟩
    · rw [List.getElem?_set_ne (fun h => e h.symm)] at hx
      obtain ⟨us, q1, q2⟩ := hr i x e hx
      exact ⟨us, E.omore q1 fun m hm => .inr ⟨e, hm⟩, q2⟩

theorem Held.relen {M : Nat → Prop} {w0 : World} {rs : List Res} {w : World} {α : Type} {E : Enc α} {S : Nat → Prop} {A : Option Addr} {c n : Nat} {xs : List α} (h : Held M w0 (rSo E S A c xs :: rs) w) (hn : xs.length = n) : Held M w0 (rO (eSl E) S [.slice A n c] xs :: rs) w := hn ▸ h

theorem Held.lt {M : Nat → Prop} {w0 : World} {rs : List Res} {w : World} (h : Held M w0 rs w) {i : Nat} {r : Res} (hi : rs[i]? = some r) : ∀ b, r.S b → b < w.heap.size := fun b hb => (h.rng r (List.mem_of_getElem? hi) b hb).2

/-- What a callee made, beside what is held. -/
theorem Held.app {M : Nat → Prop} {w0 : World} {rs qs : List Res} {w w' : World} (h : Held M w0 rs w) (h' : Held Nob w qs w') : Held M w0 (qs ++ rs) w' where
  chg := (h.on h'.below).chg
  ok := by
    intro r hr
    rcases List.mem_append.1 hr with hr | hr
    · exact h'.ok r hr
    · exact (h.on h'.below).ok r hr
  rng := by
    intro r hr b hb
    rcases List.mem_append.1 hr with hr | hr
    · have h1 := h'.rng r hr b hb
      exact ⟨.inr (Nat.le_trans h.size (h1.1.resolve_left fun q => q.elim)), h1.2⟩
    · exact (h.on h'.below).rng r hr b hb
  sep := by
    refine List.pairwise_append.2 ⟨h'.sep, h.sep, fun r hr s hs b hb hb' => ?_⟩
    have h1 := (h'.rng r hr b hb).1.resolve_left fun q => q.elim
    have h2 := (h.rng s hs b hb').2
    omega

/-- Held only if p holds. -/
def rIf (p : Prop) (r : Res) : Res := ⟨r.S, fun w => p → r.φ w, fun w w' h hp hq => r.loc w w' h (hp hq)⟩

theorem Held.toIf {M : Nat → Prop} {w0 : World} {rs : List Res} {r : Res} {w : World} (h : Held M w0 (r :: rs) w) (p : Prop) : Held M w0 (rIf p r :: rs) w :=
  h.turn (rIf p r) (fun hr _ => hr) fun _ h => h

theorem Held.ofIf {M : Nat → Prop} {w0 : World} {rs : List Res} {r : Res} {w : World} {p : Prop} (h : Held M w0 (rIf p r :: rs) w) (hp : p) : Held M w0 (r :: rs) w :=
  h.turn r (fun hr => hr hp) fun _ h => h

theorem Held.noIf {M : Nat → Prop} {w0 : World} {rs : List Res} {w : World} {p : Prop} (h : Held M w0 rs w) {α : Type} {E : Enc α} {A : Option Addr} {c : Nat} {xs : List α} (r : Res) (hp : ¬ p) (hr : r = rSo E Nob A c xs := by rfl) : Held M w0 (rIf p r :: rs) w := by
  subst hr
  exact h.new (Below.refl _ _) (rIf p (rSo E Nob A c xs)) (fun hq => absurd hq hp) fun _ h => h.elim

abbrev bs (l : List UInt8) : ByteArray := ⟨l.toArray⟩

theorem bs_size (l : List UInt8) : (bs l).size = l.length := by simp [bs, ByteArray.size]

theorem bs_toList (l : List UInt8) : (bs l).toList = l := by rw [Go.Lib.toList_data]

theorem bs_app (a b : List UInt8) : bs a ++ bs b = bs (a ++ b) := by
  rw [ByteArray.mk_append_mk]

theorem bs_eta (s : ByteArray) : bs s.data.toList = s := by cases s; simp

theorem lkS {t : Nat} {L : List (Nat × Value)} {x y : List UInt8} (h : lk t L = some (.string (bs x))) (e : x = y) : lk t L = some (.string (bs y)) := e ▸ h

/-- A byte of a row of bytes. -/
def eByte : Enc Int where
  size := 1
  pos := Nat.zero_lt_one
  R := fun _ _ cs x => cs = [.int .u8 x] ∧ 0 ≤ x ∧ x ≤ 255
  len := by rintro _ _ _ _ ⟨rfl, _⟩; rfl
  keep := fun h _ => h
  more := fun h _ => h
  O := fun _ _ cs x => cs = [.int .u8 x] ∧ 0 ≤ x ∧ x ≤ 255
  read := fun h => h
  okeep := fun h _ => h
  omore := fun h _ => h

/-- A text. -/
def eTxt : Enc (List UInt8) where
  size := 1
  pos := Nat.zero_lt_one
  R := fun _ _ cs x => cs = [.string (bs x)] ∧ x.length ≤ 9223372036854775807
  len := by rintro _ _ _ _ ⟨rfl, _⟩; rfl
  keep := fun h _ => h
  more := fun h _ => h
  O := fun _ _ cs x => cs = [.string (bs x)] ∧ x.length ≤ 9223372036854775807
  read := fun h => h
  okeep := fun h _ => h
  omore := fun h _ => h

theorem oY {w : World} {S : Nat → Prop} {x : Int} (h : 0 ≤ x ∧ x ≤ 255) : eByte.O w S [.int .u8 x] x := ⟨rfl, h⟩

theorem oS {w : World} {S : Nat → Prop} {x : List UInt8} (h : x.length ≤ 9223372036854775807) : eTxt.O w S [.string (bs x)] x := ⟨rfl, h⟩

theorem x_sadd {P : Program} {S : World → Prop} {L : List (Nat × Value)} {d : Option Tmp} {t t' : TypeId} {x y : Operand} {m k : List UInt8} {ty : TypeId} {pos : String} {af : Array Edge} {g : Option (Nat × Bool)} (hx : ev L x = some (.string (bs m))) (hy : ev L y = some (.string (bs k))) (h : m.length + k.length ≤ 9223372036854775807) : XS P S L ⟨d, .binOp .add t x y t', ty, pos, af, g⟩ (.string (bs (m ++ k))) := fun _ _ _ hE _ => by
  have e : ¬ (((bs m).size + (bs k).size : Nat) : Int) > IntKind.i64.max := by
    rw [bs_size, bs_size]; show ¬ _ > (9223372036854775807 : Int); omega
  simp only [execOp, hE.ev hx, hE.ev hy, eqGuard, binOp, Op.stringOp, if_neg e, bs_app]; rfl

theorem beq_dec (m k : List UInt8) : (m == k) = decide (m = k) := by
  by_cases h : m = k <;> simp [h]

theorem x_sneqB {P : Program} {S : World → Prop} {L : List (Nat × Value)} {d : Option Tmp} {t t' : TypeId} {x y : Operand} {m k : List UInt8} {ty : TypeId} {pos : String} {af : Array Edge} {g : Option (Nat × Bool)} (hx : ev L x = some (.string (bs m))) (hy : ev L y = some (.string (bs k))) : XS P S L ⟨d, .binOp .neq t x y t', ty, pos, af, g⟩ (.bool (!decide (m = k))) := by
  have := x_sneq (P := P) (S := S) (d := d) (t := t) (t' := t') (ty := ty) (pos := pos) (af := af) (g := g) hx hy
  rwa [bs_toList, bs_toList, beq_dec] at this

theorem x_conv8 {P : Program} {S : World → Prop} {L : List (Nat × Value)} {d : Option Tmp} {s t : TypeId} {x : Operand} {q : IntKind} {m : Int} {ty : TypeId} {pos : String} {af : Array Edge} {g : Option (Nat × Bool)} {sd : TypeDesc} (hs : P.underlying s = some sd) (ht : P.underlying t = some (.int .u8)) (hx : ev L x = some (.int q m)) (h : 0 ≤ m ∧ m ≤ 255) : XS P S L ⟨d, .convert s t x, ty, pos, af, g⟩ (.int .u8 m) := fun _ _ _ hE _ => by
  have e : IntKind.u8.wrap m = m := IntWalk.u8_in _ h
  simp [execOp, hE.ev hx, convert, run_underlying hs, run_underlying ht, Conv.intToInt, e]

theorem loadCells_sl {P : Program} {w : World} {b off c : Nat} {S : Nat → Prop} {xs : List Int} (h : Sl eByte w S (some ⟨b, off, none⟩) c xs) : (loadCells ⟨b, off, none⟩ xs.length).run P w = .ok (xs.map (Value.int .u8)).toArray w := by
  have key : ∀ (ys : List Int) (i : Nat) (acc : Array Value), (∀ (j : Nat) (y : Int), ys[j]? = some y → w.cell? ⟨b, off + (i + j), none⟩ = some (.int .u8 y)) → (loadCellsFrom ⟨b, off, none⟩ i ys.length acc).run P w = .ok (acc ++ (ys.map (Value.int .u8)).toArray) w := by
    intro ys
    induction ys with
    | nil => intro i acc _; simp [loadCellsFrom, Sem.run_pure]
    | cons y ys ih =>
      intro i acc hc
      have h0 := hc 0 y rfl
      rw [Nat.add_zero] at h0
      have hl : (load (Addr.add ⟨b, off, none⟩ i)).run P w = .ok (.int .u8 y) w := by
        rw [add_none]; simp [load, Sem.run, h0]
      have h1 := ih (i + 1) (acc.push (.int .u8 y)) fun j z hz => by
        have := hc (j + 1) z (by simpa using hz)
        rwa [show off + (i + (j + 1)) = off + (i + 1 + j) from by omega] at this
      simp only [List.length_cons, loadCellsFrom, Sem.run_bind, hl, Result.andThen_ok, h1]
      simp
  refine (key xs 0 #[] fun j y hy => ?_).trans (by simp)
  have hj := (List.getElem?_eq_some_iff.1 hy).1
  obtain ⟨b', off', es, hA, _, hR, hc⟩ := h.at hj
  simp only [Option.some.injEq, Addr.mk.injEq, and_true] at hA
  obtain ⟨rfl, rfl⟩ := hA
  obtain ⟨rfl, _⟩ := hR
  have h2 := hc 0 _ rfl
  have h3 : xs[j] = y := by rw [List.getElem?_eq_getElem hj] at hy; exact Option.some.inj hy
  rw [h3] at h2
  rwa [show off + j * eByte.size + 0 = off + (0 + j) from by simp [eByte]] at h2

theorem push_bytes : ∀ (ns : List Int) (l : List UInt8), ns.foldl (fun r n => r.push (UInt8.ofNat n.toNat)) (bs l) = bs (l ++ Go.Lib.bytesOf ns)
  | [], l => by simp [Go.Lib.bytesOf]
  | n :: ns, l => by
    have e : (bs l).push (UInt8.ofNat n.toNat) = bs (l ++ [UInt8.ofNat n.toNat]) := by simp [bs, ByteArray.push]
    rw [List.foldl_cons, e, push_bytes ns]
    simp [Go.Lib.bytesOf]

theorem x_bytes {P : Program} {S : World → Prop} {L : List (Nat × Value)} {d : Option Tmp} {s t e : TypeId} {x : Operand} {A : Option Addr} {c : Nat} {xs : List Int} {ty : TypeId} {pos : String} {af : Array Edge} {g : Option (Nat × Bool)} (hs : P.underlying s = some (.slice e)) (he : P.underlying e = some (.int .u8)) (ht : P.underlying t = some .string) (hx : ev L x = some (.slice A xs.length c)) (hr : ∀ w, S w → Sl eByte w (Old w) A c xs) : XS P S L ⟨d, .convert s t x, ty, pos, af, g⟩ (.string (bs (Go.Lib.bytesOf xs))) := fun _ _ w hE hS => by
  have h := hr w hS
  have hb : (Conv.bytesToString (.slice A xs.length c)).run P w = .ok (.string (bs (Go.Lib.bytesOf xs))) w := by
    by_cases hn : xs = []
    · subst hn
      cases A with
      | none => rfl
      | some p =>
        have := run_bytesToString (P := P) w p 0 c [] rfl
        exact this
    · obtain ⟨b, off, rfl, _⟩ := h.2.2 hn
      have := run_bytesToString (P := P) w ⟨b, off, none⟩ xs.length c xs (loadCells_sl h)
      rw [this]
      have e2 := push_bytes xs []
      rw [List.nil_append] at e2
      rw [← e2]; rfl
  simp only [execOp, hE.ev hx, convert, Sem.run_bind, run_underlying hs, run_underlying ht, run_underlying he, Result.andThen_ok, hb]
  rfl

theorem c_ownY {M : Nat → Prop} {w0 : World} {rs : List Res} {S : Nat → Prop} {b off c k : Nat} {xs : List Int} {y : Int} (i : Nat) (hi : rs[i]? = some (rSo eByte S (some ⟨b, off, none⟩) c xs)) (hk : k < xs.length) (hy : xs[k] = y) : ∀ w, Held M w0 rs w → w.cell? ⟨b, off + k * 1, none⟩ = some (.int .u8 y) := fun w h => by
  obtain ⟨b', off', es, hA, _, hR, hc⟩ := (h.sl hi).at hk
  simp only [Option.some.injEq, Addr.mk.injEq, and_true] at hA
  obtain ⟨rfl, rfl⟩ := hA
  obtain ⟨rfl, _⟩ := hR
  have := hc 0 _ rfl
  rw [← hy]; exact this

theorem i_ownY {M : Nat → Prop} {w0 w : World} {rs : List Res} {S : Nat → Prop} {A : Option Addr} {c k : Nat} {xs : List Int} (h : Held M w0 rs w) (i : Nat) (hi : rs[i]? = some (rSo eByte S A c xs)) (hk : k < xs.length) : 0 ≤ xs[k] ∧ xs[k] ≤ 255 := by
  obtain ⟨b', off', es, hA, _, hR, hc⟩ := (h.sl hi).at hk
  exact hR.2

/-- A builder in block b, its own blocks in S, holding the bytes l. -/
def BldIn (T e : TypeId) (B b : Nat) (S : Nat → Prop) (l : List UInt8) (w : World) : Prop :=
  Lib.IsBuilderF T e B b (Lib.byteCells l) w ∧ S b ∧ ∀ p v g, w.heap[b]? = some (.cells #[p, v] T (0, 0)) → v.ownBlock = some g → S g

theorem BldIn.loc {T e : TypeId} {B b : Nat} {S : Nat → Prop} {l : List UInt8} {w w' : World} (hs : ∀ k, S k → w'.heap[k]? = w.heap[k]?) (h : BldIn T e B b S l w) : BldIn T e B b S l w' := by
  obtain ⟨h1, h2, h3⟩ := h
  have key : ∀ p, Lib.BuilderAtF T e B b p (Lib.byteCells l) w → Lib.BuilderAtF T e B b p (Lib.byteCells l) w' := by
    rintro p ⟨hB, v, hb, hown, hne⟩
    refine ⟨hB, v, (hs b h2).trans hb, ⟨hown.1, ?_⟩, hne⟩
    rcases hown.2 with hn | ⟨g, cap, cur, fz, rfl, hbg, hg, rest⟩
    · exact .inl hn
    · exact .inr ⟨g, cap, cur, fz, rfl, hbg, (hs g (h3 _ _ g hb (by simp [Value.ownBlock]))).trans hg, rest⟩
  refine ⟨?_, h2, fun p v g hb hv => h3 p v g ((hs b h2).symm.trans hb) hv⟩
  rcases h1 with h | h
  · exact .inl (key _ h)
  · exact .inr (key _ h)

def rBldT (T e : TypeId) (B b : Nat) (S : Nat → Prop) (l : List UInt8) : Res := ⟨S, BldIn T e B b S l, fun _ _ hs h => BldIn.loc hs h⟩

theorem BldIn.mk {T e : TypeId} {B b : Nat} {l : List UInt8} {w : World} (h : Lib.IsBuilderF T e B b (Lib.byteCells l) w) : BldIn T e B b (Iv B w.heap.size) l w := by
  have hb : B ≤ b ∧ b < w.heap.size := by
    rcases h with h | h
    · exact ⟨h.1, h.lt⟩
    · exact ⟨h.1, h.lt⟩
  refine ⟨h, hb, fun p v g hh hv => ?_⟩
  have key : ∀ q, Lib.BuilderAtF T e B b q (Lib.byteCells l) w → Iv B w.heap.size g := by
    rintro q ⟨_, v', hb', hown, _⟩
    rw [hh] at hb'
    simp only [Option.some.injEq, Obj.cells.injEq, and_true] at hb'
    have e2 : v = v' := by
      have := congrArg (fun a : Array Value => a[1]?) hb'
      simpa using this
    subst e2
    exact hown.lt g hv
  rcases h with h | h
  · exact key _ h
  · exact key _ h

theorem Held.bldCall {T e : TypeId} {w0 w w' : World} {b : Nat} {S : Nat → Prop} {l l' : List UInt8} (h : Held Nob w0 [rBldT T e w0.heap.size b S l] w) (hb : Below w0.heap.size w w') (hi : Lib.IsBuilderF T e w0.heap.size b (Lib.byteCells l') w') : ∃ S', Held Nob w0 [rBldT T e w0.heap.size b S' l'] w' := by
  refine ⟨Iv w0.heap.size w'.heap.size, ?_⟩
  have hb2 : Below w0.heap.size w0 w' := h.below.trans hb
  exact ⟨.of_below hb2, by intro r hr; obtain rfl := List.mem_singleton.1 hr; exact BldIn.mk hi, by intro r hr; obtain rfl := List.mem_singleton.1 hr; exact fun k hk => ⟨.inr hk.1, hk.2⟩, List.pairwise_singleton _ _⟩

theorem Held.toBld {T e : TypeId} {w0 w : World} {b : Nat} {rs : List Res} (h : Held Nob w0 (rBlk b T [.pointer none, .slice none 0 0] :: rs) w) : ∃ S, Held Nob w0 [rBldT T e w0.heap.size b S []] w := by
  have hB : Blk w b T #[.pointer none, .slice none 0 0] := h.ok _ List.mem_cons_self
  have hr := h.rng _ (List.mem_cons_self) b rfl
  have hle : w0.heap.size ≤ b := hr.1.resolve_left fun x => x.elim
  have hi : Lib.IsBuilderF T e w0.heap.size b (Lib.byteCells []) w := .inl ⟨hle, _, hB, by simpa [Lib.byteCells] using World.ownsRowF_nil w w0.heap.size e 1, by simp [Value.ownBlock]⟩
  refine ⟨Iv w0.heap.size w.heap.size, ⟨h.chg, ?_, ?_, List.pairwise_singleton _ _⟩⟩
  · intro r hr; obtain rfl := List.mem_singleton.1 hr; exact BldIn.mk hi
  · intro r hr; obtain rfl := List.mem_singleton.1 hr; exact fun k hk => ⟨.inr hk.1, hk.2⟩

theorem Held.isBld {T e : TypeId} {M : Nat → Prop} {w0 w : World} {B b : Nat} {S : Nat → Prop} {l : List UInt8} {rs : List Res} (h : Held M w0 (rBldT T e B b S l :: rs) w) : Lib.IsBuilderF T e B b (Lib.byteCells l) w := (h.ok _ List.mem_cons_self : BldIn T e B b S l w).1

/-- What a package-level variable holds stays when only new blocks come and blocks behind it change. -/
theorem tab_below {P : Program} {w w' : World} {name : String} {k : IntKind} {zs : List Int} {g : Nat} (hg : P.globalNamed name = some g) (h : Lib.TabIs P w name k zs) (hb : Below w.heap.size w w') : Lib.TabIs P w' name k zs := by
  unfold Lib.TabIs World.var? at h ⊢
  rw [hg] at h ⊢
  simp only [Option.bind_some] at h ⊢
  have hlt : g < w.heap.size := by
    rcases Nat.lt_or_ge g w.heap.size with hlt | hge
    · exact hlt
    · rw [Array.getElem?_eq_none hge] at h; cases h
  rw [hb.block g hlt]
  exact h

theorem tv_2 : TV Tryd.prog 2 false [.int .i64 0] := by
  obtain ⟨i, h1, h2, h3⟩ := tv_parts (show (Tryd.prog.info? 2).map (fun i => (i.zero, i.size)) = some (some (.int .i64 0), 1) from by kernel_rfl)
  exact ⟨⟨_, Tryd.underlying2, rfl⟩, i, _, h1, h2, h3, rfl⟩

theorem tv_5 : TV Tryd.prog 5 false [.int .u8 0] := by
  obtain ⟨i, h1, h2, h3⟩ := tv_parts (show (Tryd.prog.info? 5).map (fun i => (i.zero, i.size)) = some (some (.int .u8 0), 1) from by kernel_rfl)
  exact ⟨⟨_, Tryd.underlying5, rfl⟩, i, _, h1, h2, h3, rfl⟩

theorem tv_42 : TV Tryd.prog 42 false [.slice none 0 0] := by
  obtain ⟨i, h1, h2, h3⟩ := tv_parts (show (Tryd.prog.info? 42).map (fun i => (i.zero, i.size)) = some (some (.slice none 0 0), 1) from by kernel_rfl)
  exact ⟨⟨_, Tryd.underlying42, rfl⟩, i, _, h1, h2, h3, rfl⟩

theorem tv_51 : TV Tryd.prog 51 false [.slice none 0 0] := by
  obtain ⟨i, h1, h2, h3⟩ := tv_parts (show (Tryd.prog.info? 51).map (fun i => (i.zero, i.size)) = some (some (.slice none 0 0), 1) from by kernel_rfl)
  exact ⟨⟨_, Tryd.underlying51, rfl⟩, i, _, h1, h2, h3, rfl⟩

theorem tv_61 : TV Tryd.prog 61 true [.int .i64 0, .slice none 0 0, .slice none 0 0] := by
  obtain ⟨i, h1, h2, h3⟩ := tv_parts (show (Tryd.prog.info? 61).map (fun i => (i.zero, i.size)) = some (some (.agg #[.int .i64 0, .slice none 0 0, .slice none 0 0]), 3) from by kernel_rfl)
  exact ⟨⟨_, Tryd.underlying61, rfl⟩, i, _, h1, h2, h3, rfl⟩

theorem tv_64 : TV Tryd.prog 64 true [.int .i64 0, .slice none 0 0, .slice none 0 0] := by
  obtain ⟨i, h1, h2, h3⟩ := tv_parts (show (Tryd.prog.info? 64).map (fun i => (i.zero, i.size)) = some (some (.agg #[.int .i64 0, .slice none 0 0, .slice none 0 0]), 3) from by kernel_rfl)
  exact ⟨⟨_, Tryd.underlying64, rfl⟩, i, _, h1, h2, h3, rfl⟩

theorem ts_42 : TSl Tryd.prog 42 51 1 24 := by
  obtain ⟨i, h1, h2, h3, h4⟩ := ts_parts (show (Tryd.prog.info? 51).map (fun i => (i.zero, i.size, i.bytes)) = some (some (.slice none 0 0), 1, 24) from by kernel_rfl)
  exact ⟨Tryd.underlying42, i, _, h1, h2, h3, h4, rfl⟩

theorem ts_51 : TSl Tryd.prog 51 2 1 8 := by
  obtain ⟨i, h1, h2, h3, h4⟩ := ts_parts (show (Tryd.prog.info? 2).map (fun i => (i.zero, i.size, i.bytes)) = some (some (.int .i64 0), 1, 8) from by kernel_rfl)
  exact ⟨Tryd.underlying51, i, _, h1, h2, h3, h4, rfl⟩

theorem fa_64_0 : ∀ b o w, (Instr.fieldAt 64 (.pointer (some ⟨b, o, none⟩)) 0).run Tryd.prog w = .ok (.pointer (some ⟨b, o + 0, none⟩)) w := by
  obtain ⟨i, z, h1, _, h3, _⟩ := tv_2.info
  exact fun b o w => fieldAt_of (f := 0) Tryd.underlying64 rfl h1 (by rw [h3]; decide) b o w

theorem fa_64_1 : ∀ b o w, (Instr.fieldAt 64 (.pointer (some ⟨b, o, none⟩)) 1).run Tryd.prog w = .ok (.pointer (some ⟨b, o + 1, none⟩)) w := by
  obtain ⟨i, z, h1, _, h3, _⟩ := tv_42.info
  exact fun b o w => fieldAt_of (f := 1) Tryd.underlying64 rfl h1 (by rw [h3]; decide) b o w

theorem fa_64_2 : ∀ b o w, (Instr.fieldAt 64 (.pointer (some ⟨b, o, none⟩)) 2).run Tryd.prog w = .ok (.pointer (some ⟨b, o + 2, none⟩)) w := by
  obtain ⟨i, z, h1, _, h3, _⟩ := tv_51.info
  exact fun b o w => fieldAt_of (f := 2) Tryd.underlying64 rfl h1 (by rw [h3]; decide) b o w

theorem ts_106 : TSl Tryd.prog 106 9 1 16 := by
  obtain ⟨i, h1, h2, h3, h4⟩ := ts_parts (show (Tryd.prog.info? 9).map (fun i => (i.zero, i.size, i.bytes)) = some (some (.string ByteArray.empty), 1, 16) from by kernel_rfl)
  exact ⟨Tryd.underlying106, i, _, h1, h2, h3, h4, rfl⟩

theorem ts_159 : TSl Tryd.prog 159 5 1 1 := by
  obtain ⟨i, h1, h2, h3, h4⟩ := ts_parts (show (Tryd.prog.info? 5).map (fun i => (i.zero, i.size, i.bytes)) = some (some (.int .u8 0), 1, 1) from by kernel_rfl)
  exact ⟨Tryd.underlying159, i, _, h1, h2, h3, h4, rfl⟩

theorem en_34 : ∀ args w, (callFunc 34 args).run Tryd.prog w = .ok (.enter 34 args) w := enters_of Tryd.func34 (by kernel_rfl) rfl

theorem en_35 : ∀ args w, (callFunc 35 args).run Tryd.prog w = .ok (.enter 35 args) w := enters_of Tryd.func35 (by kernel_rfl) rfl

theorem en_36 : ∀ args w, (callFunc 36 args).run Tryd.prog w = .ok (.enter 36 args) w := enters_of Tryd.func36 (by kernel_rfl) rfl

theorem en_37 : ∀ args w, (callFunc 37 args).run Tryd.prog w = .ok (.enter 37 args) w := enters_of Tryd.func37 (by kernel_rfl) rfl

theorem en_38 : ∀ args w, (callFunc 38 args).run Tryd.prog w = .ok (.enter 38 args) w := enters_of Tryd.func38 (by kernel_rfl) rfl

theorem en_55 : ∀ args w, (callFunc 55 args).run Tryd.prog w = .ok (.enter 55 args) w := enters_of Tryd.func55 (by kernel_rfl) rfl

theorem en_60 : ∀ args w, (callFunc 60 args).run Tryd.prog w = .ok (.enter 60 args) w := enters_of Tryd.func60 (by kernel_rfl) rfl

theorem en_61 : ∀ args w, (callFunc 61 args).run Tryd.prog w = .ok (.enter 61 args) w := enters_of Tryd.func61 (by kernel_rfl) rfl

theorem en_71 : ∀ args w, (callFunc 71 args).run Tryd.prog w = .ok (.enter 71 args) w := enters_of Tryd.func71 (by kernel_rfl) rfl

theorem en_74 : ∀ args w, (callFunc 74 args).run Tryd.prog w = .ok (.enter 74 args) w := enters_of Tryd.func74 (by kernel_rfl) rfl

theorem en_83 : ∀ args w, (callFunc 83 args).run Tryd.prog w = .ok (.enter 83 args) w := enters_of Tryd.func83 (by kernel_rfl) rfl

theorem en_84 : ∀ args w, (callFunc 84 args).run Tryd.prog w = .ok (.enter 84 args) w := enters_of Tryd.func84 (by kernel_rfl) rfl

theorem en_85 : ∀ args w, (callFunc 85 args).run Tryd.prog w = .ok (.enter 85 args) w := enters_of Tryd.func85 (by kernel_rfl) rfl

theorem en_86 : ∀ args w, (callFunc 86 args).run Tryd.prog w = .ok (.enter 86 args) w := enters_of Tryd.func86 (by kernel_rfl) rfl

theorem en_103 : ∀ args w, (callFunc 103 args).run Tryd.prog w = .ok (.enter 103 args) w := enters_of Tryd.func103 (by kernel_rfl) rfl

theorem en_108 : ∀ args w, (callFunc 108 args).run Tryd.prog w = .ok (.enter 108 args) w := enters_of Tryd.func108 (by kernel_rfl) rfl

theorem en_118 : ∀ args w, (callFunc 118 args).run Tryd.prog w = .ok (.enter 118 args) w := enters_of Tryd.func118 (by kernel_rfl) rfl

theorem hmix : Tryd.prog.follows .mixedOrders = true := by kernel_rfl

def outB (lo hi n : Int) : Bool := !withinB n lo hi

def allW (xs : List Int) (lo hi : Int) : Bool := !xs.any (outB lo hi)

theorem impl_allWithin (A : Option Addr) (c : Nat) (xs : List Int) (lo hi : Int) (w : World) (h : Sl eInt w (Old w) A c xs) :
    Calls Tryd.prog 54 #[.slice A xs.length c, .int .i64 lo, .int .i64 hi] w fun e w' => e = .returned (.bool (allW xs lo hi)) ∧ w = w' := by
  have hlen := h.len
  have H := Lib.hid h; clear h
  unfold allW
  go_enter Tryd.func54, Tryd.ntmps54
  go_wp2
  go_loop [8, 11] (fun _ i => ∃ k : Nat, k ≤ xs.length ∧ i = .int .i64 k ∧ Hid ((xs.take k).any (outB lo hi) = false)) (fun _ i => xs.length - (intOf i).toNat)
  case atStart => exact ⟨0, Nat.zero_le _, rfl, rfl⟩
  case round =>
    obtain ⟨k, hk, rfl, HN⟩ := hrel
    by_cases hlt : k < xs.length
    · have hltz : (k : Int) < (xs.length : Int) := by omega
      obtain ⟨b, off, es, rfl, hb, ⟨rfl, _⟩, hc⟩ := H.out.at1 rfl hlt
      have d0 : w.cell? ⟨b, off + k, none⟩ = some (.int .i64 xs[k]) := hc _ rfl
      clear hc
      have HT : Hid (outB lo hi xs[k] = true → xs.any (outB lo hi) = true) := fun e => any_hit hlt e
      have HS : Hid (outB lo hi xs[k] = false → (xs.take (k + 1)).any (outB lo hi) = false) := fun e => any_step hlt HN.out e
      generalize xs[k] = y at d0 HT HS
      cases q1 : withinB y lo hi
      · go_wp2_with (go_at_call 104; refine (impl_within _ _ _ _).mono ?_; rintro e w' ⟨rfl, rfl⟩; rw [q1])
        go_ret
        exact ⟨by rw [HT.out (by unfold outB; rw [q1]; rfl)]; rfl, rfl⟩
      · go_wp2_with (go_at_call 104; refine (impl_within _ _ _ _).mono ?_; rintro e w' ⟨rfl, rfl⟩; rw [q1])
        go_round
        case rel => exact ⟨k + 1, by omega, by go_num, HS.out (by unfold outB; rw [q1]; rfl)⟩
        case measure => simp [intOf]; omega
    · have hltz : ¬ (k : Int) < (xs.length : Int) := by omega
      obtain rfl : k = xs.length := by omega
      go_wp2
      go_ret
      have hn := HN.out
      rw [List.take_length] at hn
      exact ⟨ret_bool (by rw [hn]; rfl), rfl⟩

def isTagW (xs : List Int) (n : Int) : Bool := decide (xs.length ≤ 1000) && allW xs 0 (n - 1)

theorem impl_isTagWord (A : Option Addr) (c : Nat) (xs : List Int) (n : Int) (w : World) (h : Sl eInt w (Old w) A c xs) (hn : 1 ≤ n) (hn' : n ≤ 1048576) :
    Calls Tryd.prog 156 #[.slice A xs.length c, .int .i64 n] w fun e w' => e = .returned (.bool (isTagW xs n)) ∧ w = w' := by
  have H := Lib.hid h; clear h
  by_cases h1 : xs.length ≤ 1000
  · have h1' : decide ((xs.length : Int) ≤ 1000) = true := by simp; omega
    rw [show isTagW xs n = allW xs 0 (n - 1) from by unfold isTagW; simp [h1]]
    go_enter Tryd.func156, Tryd.ntmps156
    go_wp2_with (go_at_call 54; refine (impl_allWithin _ _ _ _ _ _ H.out).mono ?_; rintro e w' ⟨rfl, rfl⟩)
    go_ret
    exact ⟨rfl, rfl⟩
  · have h1' : decide ((xs.length : Int) ≤ 1000) = false := by simp; omega
    rw [show isTagW xs n = false from by unfold isTagW; simp [h1]]
    go_enter Tryd.func156, Tryd.ntmps156
    go_wp2_with fail
    go_ret
    exact ⟨rfl, rfl⟩

def notTagW (n : Int) (xs : List Int) : Bool := !isTagW xs n

theorem enters_wordsOk1 : ∀ args w, (callFunc 155 args).run Tryd.prog w = .ok (.enter 155 args) w := enters_of Tryd.func155 (by kernel_rfl) rfl

theorem impl_wordsOk1 (es : List Value) (xs : List Int) (w : World) (h : (eSl eInt).R w (Old w) es xs) (B : Nat) (n : Int) (hn : 1 ≤ n) (hn' : n ≤ 1048576) (hB : w.cell? ⟨B, 0, none⟩ = some (.int .i64 n)) :
    Calls Tryd.prog 155 #[es[0]!, .pointer (some ⟨B, 0, none⟩)] w fun e w' => e = .returned (.bool (notTagW n xs)) ∧ Below w.heap.size w w' := by
  obtain ⟨A, c, rfl, h⟩ := h
  have H := Lib.hid h; clear h
  show Calls Tryd.prog 155 #[.slice A xs.length c, .pointer (some ⟨B, 0, none⟩)] w _
  go_enter Tryd.func155, Tryd.ntmps155
  go_wp2_with (go_at_call 156; refine (impl_isTagWord _ _ _ _ _ H.out hn hn').mono ?_; rintro e w' ⟨rfl, rfl⟩)
  go_ret
  exact ⟨rfl, Below.refl _ _⟩

theorem impl_wordsOk (A : Option Addr) (c : Nat) (xs : List (List Int)) (n : Int) (w : World) (h : Sl (eSl eInt) w (Old w) A c xs) (hn : 1 ≤ n) (hn' : n ≤ 1048576) :
    Calls Tryd.prog 120 #[.slice A xs.length c, .int .i64 n] w fun e w' => e = .returned (.bool (!xs.any (notTagW n))) ∧ Below w.heap.size w w' := by
  have hW : Below w.heap.size w (w.alloc (.cells #[.int .i64 n] 2)) := (Below.refl _ _).alloc (Nat.le_refl _) _
  have hI := Lib.hid (ContainsFunc_Int64S (notTagW n) 155 #[.pointer (some ⟨w.heap.size, 0, none⟩)] A c xs _ (h.on hW) enters_wordsOk1 (fun W x es _ hb hR => impl_wordsOk1 es x W hR w.heap.size n hn hn' (by
    rw [hb.cell (p := ⟨w.heap.size, 0, none⟩) (by simp)]; simp [go_sem])))
  have HW := Lib.hid hW; clear hW h
  go_enter Tryd.func120, Tryd.ntmps120
  go_wp2_with (go_at_call 154; refine hI.out.mono ?_; rintro e w' ⟨rfl, hb⟩)
  go_ret
  exact ⟨rfl, below_trans HW.out hb⟩

theorem spec_l09Over (A : Option Addr) (c : Nat) (xs : List Int) (n : Int) (w : World) (h : Sl eInt w (Old w) A c xs) (hn : 1 ≤ n) (hn' : n ≤ 1048576) :
    Calls Tryd.prog 125 #[.slice A xs.length c, .int .i64 n] w fun e w' => e = .returned (.bool (isTagW xs n)) ∧ w = w' := by
  have hlen := h.len
  have H := Lib.hid h; clear h
  have HV : Hid (isTagW xs n = (decide (xs.length ≤ 1000) && !xs.any (outB 0 (n - 1)))) := rfl
  go_enter Tryd.func125, Tryd.ntmps125
  go_wp2
  go_loop [5] (fun i => ∃ k : Nat, k ≤ xs.length ∧ i = .int .i64 k ∧ Hid ((xs.take k).any (outB 0 (n - 1)) = false)) (fun i => xs.length - (intOf i).toNat)
  case atStart => exact ⟨0, Nat.zero_le _, rfl, rfl⟩
  case round =>
    obtain ⟨k, hk, rfl, HN⟩ := hrel
    by_cases hlt : k < xs.length
    · have hltz : (k : Int) < (xs.length : Int) := by omega
      obtain ⟨b, off, es, rfl, hb, ⟨rfl, _⟩, hc⟩ := H.out.at1 rfl hlt
      have d0 : w.cell? ⟨b, off + k, none⟩ = some (.int .i64 xs[k]) := hc _ rfl
      clear hc
      have HT : Hid (outB 0 (n - 1) xs[k] = true → xs.any (outB 0 (n - 1)) = true) := fun e => any_hit hlt e
      have HS : Hid (outB 0 (n - 1) xs[k] = false → (xs.take (k + 1)).any (outB 0 (n - 1)) = false) := fun e => any_step hlt HN.out e
      generalize xs[k] = y at d0 HT HS
      cases q1 : withinB y 0 (n - 1)
      · go_wp2_with (go_at_call 52; refine (spec_l00In _ _ _ _).mono ?_; rintro e w' ⟨rfl, rfl⟩; rw [q1])
        go_ret
        exact ⟨ret_bool (by rw [HV.out, HT.out (by unfold outB; rw [q1]; rfl)]; simp), rfl⟩
      · go_wp2_with (go_at_call 52; refine (spec_l00In _ _ _ _).mono ?_; rintro e w' ⟨rfl, rfl⟩; rw [q1])
        go_round
        case rel => exact ⟨k + 1, by omega, by go_num, HS.out (by unfold outB; rw [q1]; rfl)⟩
        case measure => simp [intOf]; omega
    · have hltz : ¬ (k : Int) < (xs.length : Int) := by omega
      obtain rfl : k = xs.length := by omega
      go_wp2
      go_ret
      have hn := HN.out
      rw [List.take_length] at hn
      exact ⟨ret_bool (by rw [HV.out, hn]; simp; omega), rfl⟩

/-- Strictly rising. -/
def risB : List Int → Bool
  | x :: y :: l => decide (x < y) && risB (y :: l)
  | _ => true

theorem risB_get : ∀ (xs : List Int) (k : Nat) (h : k + 1 < xs.length), xs[k + 1] ≤ xs[k] → risB xs = false
  | x :: y :: l, 0, _, h => by rw [risB, decide_eq_false (show ¬ x < y from Int.not_lt.2 h)]; rfl
  | x :: y :: l, k + 1, hk, h => by rw [risB, risB_get (y :: l) k (Nat.lt_of_succ_lt_succ hk) h]; simp
  | [_], k, hk, _ => by simp at hk
  | [], k, hk, _ => by simp at hk

theorem risB_all : ∀ (xs : List Int), (∀ k (h : k + 1 < xs.length), xs[k] < xs[k + 1]) → risB xs = true
  | x :: y :: l, h => by
    have h0 : x < y := h 0 (by simp)
    have h1 : risB (y :: l) = true := risB_all (y :: l) fun k hk => h (k + 1) (Nat.succ_lt_succ hk)
    rw [risB, decide_eq_true h0, h1]; rfl
  | [_], _ => rfl
  | [], _ => rfl

set_option maxHeartbeats 400000 in
theorem impl_rising (A : Option Addr) (c : Nat) (xs : List Int) (w : World) (h : Sl eInt w (Old w) A c xs) :
    Calls Tryd.prog 126 #[.slice A xs.length c] w fun e w' => e = .returned (.bool (risB xs)) ∧ Below w.heap.size w w' := by
  have hlen := h.len
  have H := Lib.hid h; clear h
  go_enter Tryd.func126, Tryd.ntmps126
  go_wp2
  go_loopw [3] (fun s3 wr => ∃ k : Nat, k ≤ xs.length ∧ s3 = .int .i64 ((k : Int) + 1) ∧ Hid (∀ j (h : j + 1 < xs.length), j < k → xs[j] < xs[j + 1]) ∧ Hid (Below w.heap.size w wr)) (fun s3 _ => xs.length + 2 - (intOf s3).toNat)
  case atStart => exact ⟨0, Nat.zero_le _, rfl, fun j _ h => absurd h (Nat.not_lt_zero _), Below.refl _ w⟩
  case round =>
    obtain ⟨k, hk, rfl, HN, BW⟩ := hrel
    by_cases hlt : k + 1 < xs.length
    · have hltz : (k : Int) + 1 < (xs.length : Int) := by omega
      have hlt0 : k < xs.length := by omega
      have hltz0 : (k : Int) < (xs.length : Int) := by omega
      have hz0 : (0 : Int) ≤ (k : Int) := by omega
      have hz1 : (0 : Int) ≤ (k : Int) + 1 := by omega
      obtain ⟨b, off, es, rfl, hb, ⟨rfl, _⟩, hc⟩ := H.out.at1 rfl hlt0
      have d0 : wr.cell? ⟨b, off + k, none⟩ = some (.int .i64 xs[k]) := (below_olds BW.out _ hb).trans (hc _ rfl)
      clear hc hb
      obtain ⟨b', off', es', hA, hb, ⟨rfl, _⟩, hc⟩ := H.out.at1 rfl hlt
      simp only [Option.some.injEq, Addr.mk.injEq, and_true] at hA
      obtain ⟨rfl, rfl⟩ := hA
      have d1 : wr.cell? ⟨b, off + (k + 1), none⟩ = some (.int .i64 xs[k + 1]) := (below_olds BW.out _ hb).trans (hc _ rfl)
      clear hc hb
      have HT : Hid (xs[k + 1] ≤ xs[k] → risB xs = false) := risB_get xs k hlt
      have HS : Hid (xs[k] < xs[k + 1] → ∀ j (h : j + 1 < xs.length), j < k + 1 → xs[j] < xs[j + 1]) := fun e j h hj => by
        by_cases ej : j = k
        · subst ej; exact e
        · exact HN.out j h (by omega)
      generalize xs[k] = x at d0 HT HS
      generalize xs[k + 1] = y at d1 HT HS
      by_cases hq : y ≤ x
      · have HF := Lib.hid (HT.out hq)
        go_wp2_with fail
        go_quiet (fail)
        go_wp2
        go_ret
        exact ⟨ret_bool (by rw [HF.out]), below_drewN BW.out _⟩
      · have HF := Lib.hid (HS.out (Int.not_le.1 hq))
        have hq' : decide (y ≤ x) = false := decide_eq_false hq
        clear hq
        go_wp2_with fail
        go_quiet (fail)
        go_wp2
        go_roundw
        case rel => exact ⟨k + 1, by omega, by go_num, HF.out, below_drewN BW.out _⟩
        case measure => simp [intOf]; omega
    · have hltz : ¬ (k : Int) + 1 < (xs.length : Int) := by omega
      go_wp2
      go_ret
      exact ⟨ret_bool (risB_all xs fun j hj => HN.out j hj (by omega)).symm, BW.out⟩

def validTag (x : tTag) : Bool := withinB x.1 1 4 && withinB x.2.1.length 1 200 && !x.2.1.any (notTagW x.2.1.length) && risB x.2.2 && allW x.2.2 0 (x.2.1.length - 1)

set_option maxHeartbeats 1000000 in
theorem impl_ValidTag (es : List Value) (x : tTag) (w : World) (h : eTag.R w (Old w) es x) :
    Calls Tryd.prog 85 #[.agg es.toArray] w fun e w' => e = .returned (.bool (validTag x)) ∧ Below w.heap.size w w' := by
  obtain ⟨A1, c1, A2, c2, rfl, _, g1, g2⟩ := shape_Tag h
  clear h
  obtain ⟨d, ws, hs⟩ := x
  have hlen := g1.len
  have hW : Below w.heap.size w (w.alloc (.cells #[.int .i64 d, .slice A1 ws.length c1, .slice A2 hs.length c2] 64)) := (Below.refl _ _).alloc (Nat.le_refl _) _
  have K1 := Lib.hid (g1.on hW); have K2 := Lib.hid (g2.on hW)
  have HX := Lib.hid (Blk.new w 64 #[.int .i64 d, .slice A1 ws.length c1, .slice A2 hs.length c2])
  have HW := Lib.hid hW; clear hW g1 g2
  cases q1 : withinB d 1 4
  · rw [show validTag (d, ws, hs) = false from by unfold validTag; simp [q1]]
    go_enter Tryd.func85, Tryd.ntmps85
    go_wp2_with (first | (go_at_call 119; refine (impl_size_Int64S _ _ _ _).mono ?_; rintro e w' ⟨rfl, rfl⟩) | (go_at_call 104; refine (impl_within _ _ _ _).mono ?_; rintro e w' ⟨rfl, rfl⟩; rw [q1]))
    go_ret
    exact ⟨rfl, HW.out⟩
  cases q2 : withinB ws.length 1 200
  · rw [show validTag (d, ws, hs) = false from by unfold validTag; simp [q2]]
    go_enter Tryd.func85, Tryd.ntmps85
    go_wp2_with (first | (go_at_call 119; refine (impl_size_Int64S _ _ _ _).mono ?_; rintro e w' ⟨rfl, rfl⟩) | (go_at_call 104; refine (impl_within _ _ _ _).mono ?_; rintro e w' ⟨rfl, rfl⟩; first | rw [q1] | rw [q2]))
    go_ret
    exact ⟨rfl, HW.out⟩
  have q2' := withinB_true.1 q2
  have hO := Lib.hid (impl_wordsOk A1 c1 ws ws.length _ K1.out (by omega) (by omega))
  cases q3 : !ws.any (notTagW ws.length)
  · rw [show validTag (d, ws, hs) = false from by unfold validTag; rw [q3]; simp]
    rw [q3] at hO
    go_enter Tryd.func85, Tryd.ntmps85
    go_wp2_with (first | (go_at_call 119; refine (impl_size_Int64S _ _ _ _).mono ?_; rintro e w' ⟨rfl, rfl⟩) | (go_at_call 104; refine (impl_within _ _ _ _).mono ?_; rintro e w' ⟨rfl, rfl⟩; first | rw [q1] | rw [q2]) | (go_at_call 120; refine hO.out.mono ?_; rintro e w' ⟨rfl, hb⟩))
    go_ret
    exact ⟨rfl, below_trans HW.out hb⟩
  cases q4 : risB hs
  · rw [show validTag (d, ws, hs) = false from by unfold validTag; simp [q4]]
    rw [q3] at hO
    go_enter Tryd.func85, Tryd.ntmps85
    go_wp2_with (first | (go_at_call 119; refine (impl_size_Int64S _ _ _ _).mono ?_; rintro e w' ⟨rfl, rfl⟩) | (go_at_call 104; refine (impl_within _ _ _ _).mono ?_; rintro e w' ⟨rfl, rfl⟩; first | rw [q1] | rw [q2]))
    refine hO.out.mono ?_
    rintro e w1 ⟨rfl, hb⟩
    have x2 : w1.cell? ⟨w.heap.size, 2, none⟩ = some (.slice A2 hs.length c2) := (HX.out.on hb).cell 2
    have HB := Lib.hid hb; clear hb
    go_wp2_with fail
    refine (impl_rising _ _ _ _ (K2.out.on HB.out)).mono ?_
    rintro e w2 ⟨rfl, hb⟩
    rw [q4]
    go_wp2_with fail
    go_ret
    exact ⟨rfl, below_trans HW.out (below_trans HB.out hb)⟩
  · rw [show validTag (d, ws, hs) = allW hs 0 (ws.length - 1) from by unfold validTag; simp only [q1, q2, q3, q4]; simp]
    rw [q3] at hO
    go_enter Tryd.func85, Tryd.ntmps85
    go_wp2_with (first | (go_at_call 119; refine (impl_size_Int64S _ _ _ _).mono ?_; rintro e w' ⟨rfl, rfl⟩) | (go_at_call 104; refine (impl_within _ _ _ _).mono ?_; rintro e w' ⟨rfl, rfl⟩; first | rw [q1] | rw [q2]))
    refine hO.out.mono ?_
    rintro e w1 ⟨rfl, hb⟩
    have x2 : w1.cell? ⟨w.heap.size, 2, none⟩ = some (.slice A2 hs.length c2) := (HX.out.on hb).cell 2
    have HX1 := Lib.hid (HX.out.on hb)
    have HB := Lib.hid hb; clear hb
    go_wp2_with fail
    refine (impl_rising _ _ _ _ (K2.out.on HB.out)).mono ?_
    rintro e w2 ⟨rfl, hb⟩
    rw [q4]
    have x2' : w2.cell? ⟨w.heap.size, 2, none⟩ = some (.slice A2 hs.length c2) := (HX1.out.on hb).cell 2
    have HB2 := Lib.hid (below_trans HB.out hb); clear hb x2
    go_wp2_with fail
    refine (impl_allWithin _ _ _ _ _ _ (K2.out.on HB2.out)).mono ?_
    rintro e w3 ⟨rfl, rfl⟩
    go_wp2_with fail
    go_ret
    exact ⟨rfl, below_trans HW.out HB2.out⟩

set_option maxRecDepth 100000 in
set_option maxHeartbeats 1000000 in
theorem spec_l00Rises (A : Option Addr) (c : Nat) (xs : List Int) (lo hi : Int) (w : World) (h : Sl eInt w (Old w) A c xs) :
    Calls Tryd.prog 124 #[.slice A xs.length c, .int .i64 lo, .int .i64 hi] w fun e w' => e = .returned (.bool (risB xs && allW xs lo hi)) ∧ Below w.heap.size w w' := by
  have hlen := h.len
  have H := Lib.hid h; clear h
  go_enter Tryd.func124, Tryd.ntmps124
  go_wp2
  go_loopw [7] (fun s7 wr => ∃ k : Nat, k ≤ xs.length ∧ s7 = .int .i64 k ∧ Hid (∀ j (h : j + 1 < xs.length), j + 1 < k → xs[j] < xs[j + 1]) ∧ Hid ((xs.take k).any (outB lo hi) = false) ∧ Hid (Below w.heap.size w wr)) (fun s7 _ => xs.length - (intOf s7).toNat)
  case atStart => exact ⟨0, Nat.zero_le _, rfl, fun j _ h => absurd h (Nat.not_lt_zero _), rfl, Below.refl _ w⟩
  case round =>
    obtain ⟨k, hk, rfl, HN, HM, BW⟩ := hrel
    by_cases hlt : k < xs.length
    · have hltz : (k : Int) < (xs.length : Int) := by omega
      have hz0 : (0 : Int) ≤ (k : Int) := by omega
      obtain ⟨b, off, es, rfl, hb, ⟨rfl, _⟩, hc⟩ := H.out.at1 rfl hlt
      have d1 : wr.cell? ⟨b, off + k, none⟩ = some (.int .i64 xs[k]) := (below_olds BW.out _ hb).trans (hc _ rfl)
      clear hc hb
      have HT : Hid (outB lo hi xs[k] = true → (risB xs && allW xs lo hi) = false) := fun e => by unfold allW; rw [any_hit hlt e]; simp
      have HS : Hid (outB lo hi xs[k] = false → (xs.take (k + 1)).any (outB lo hi) = false) := fun e => any_step hlt HM.out e
      rcases k with _ | k
      · have hg : decide ((0 : Int) < 0) = false := rfl
        simp only [Nat.add_zero] at d1
        generalize xs[0] = y at d1 HT HS
        have hC := Lib.hid fun W => Calls.flip (spec_l00In y lo hi W)
        cases q1 : withinB y lo hi
        · have HF := Lib.hid (HT.out (by unfold outB; rw [q1]; rfl))
          have HC := hC
          rw [q1] at HC
          go_wp2_with fail
          go_quiet ((go_at_call 52; exact Calls.quiet_of_same (HC.out _)))
          go_wp2
          go_ret
          exact ⟨ret_bool (by rw [HF.out]), below_drewN BW.out _⟩
        · have HF := Lib.hid (HS.out (by unfold outB; rw [q1]; rfl))
          have HC := hC
          rw [q1] at HC
          go_wp2_with fail
          go_quiet ((go_at_call 52; exact Calls.quiet_of_same (HC.out _)))
          go_wp2
          go_roundw
          case rel => exact ⟨1, by omega, by go_num, fun j _ hj => by omega, HF.out, below_drewN BW.out _⟩
          case measure => simp [intOf]; omega
      · have hg : decide ((0 : Int) < (k : Int) + 1) = true := decide_eq_true (by omega)
        have hlt0 : k < xs.length := by omega
        have hltz0 : (k : Int) < (xs.length : Int) := by omega
        have hltz1 : (k : Int) + 1 < (xs.length : Int) := by omega
        have hz : (0 : Int) ≤ (k : Int) := by omega
        have hz1 : (0 : Int) ≤ (k : Int) + 1 := by omega
        obtain ⟨b', off', es', hA, hb, ⟨rfl, _⟩, hc⟩ := H.out.at1 rfl hlt0
        simp only [Option.some.injEq, Addr.mk.injEq, and_true] at hA
        obtain ⟨rfl, rfl⟩ := hA
        have d0 : wr.cell? ⟨b, off + k, none⟩ = some (.int .i64 xs[k]) := (below_olds BW.out _ hb).trans (hc _ rfl)
        clear hc hb hz0 hltz
        have HT2 : Hid (xs[k + 1] ≤ xs[k] → (risB xs && allW xs lo hi) = false) := fun e => by rw [risB_get xs k hlt e]; rfl
        have HS2 : Hid (xs[k] < xs[k + 1] → ∀ j (h : j + 1 < xs.length), j + 1 < k + 1 + 1 → xs[j] < xs[j + 1]) := fun e j h hj => by
          by_cases ej : j = k
          · subst ej; exact e
          · exact HN.out j h (by omega)
        generalize xs[k] = x at d0 HT2 HS2
        generalize xs[k + 1] = y at d1 HT HS HT2 HS2
        have hC := Lib.hid fun W => Calls.flip (spec_l00In y lo hi W)
        cases q1 : withinB y lo hi
        · have HF := Lib.hid (HT.out (by unfold outB; rw [q1]; rfl))
          have HC := hC
          rw [q1] at HC
          go_wp2_with fail
          go_quiet ((go_at_call 52; exact Calls.quiet_of_same (HC.out _)))
          go_wp2
          go_ret
          exact ⟨ret_bool (by rw [HF.out]), below_drewN BW.out _⟩
        have HC := hC
        rw [q1] at HC
        by_cases hq : y ≤ x
        · have HF := Lib.hid (HT2.out hq)
          have hq' : decide (y ≤ x) = true := decide_eq_true hq
          clear hq
          go_wp2_with fail
          go_quiet ((go_at_call 52; exact Calls.quiet_of_same (HC.out _)))
          go_wp2
          go_ret
          exact ⟨ret_bool (by rw [HF.out]), below_drewN BW.out _⟩
        · have HF := Lib.hid (HS2.out (Int.not_le.1 hq))
          have HF2 := Lib.hid (HS.out (by unfold outB; rw [q1]; rfl))
          have hq' : decide (y ≤ x) = false := decide_eq_false hq
          clear hq
          go_wp2_with fail
          go_quiet ((go_at_call 52; exact Calls.quiet_of_same (HC.out _)))
          go_wp2
          go_roundw
          case rel => exact ⟨k + 1 + 1, by omega, by go_num, HF.out, HF2.out, below_drewN BW.out _⟩
          case measure => simp [intOf]; omega
    · have hltz : ¬ (k : Int) < (xs.length : Int) := by omega
      obtain rfl : k = xs.length := by omega
      go_wp2
      go_ret
      have hn := HM.out
      rw [List.take_length] at hn
      exact ⟨ret_bool (by unfold allW; rw [hn, risB_all xs fun j hj => HN.out j hj hj]; rfl), BW.out⟩

set_option maxHeartbeats 1000000 in
theorem spec_l09Is (B : Nat) (A1 A2 : Option Addr) (c1 c2 : Nat) (x : tTag) (w : World) (hB0 : w.cell? ⟨B, 0, none⟩ = some (.int .i64 x.1)) (hB1 : w.cell? ⟨B, 1, none⟩ = some (.slice A1 x.2.1.length c1)) (hB2 : w.cell? ⟨B, 2, none⟩ = some (.slice A2 x.2.2.length c2))
    (g1 : Sl (eSl eInt) w (Old w) A1 c1 x.2.1) (g2 : Sl eInt w (Old w) A2 c2 x.2.2) :
    Calls Tryd.prog 83 #[.pointer (some ⟨B, 0, none⟩)] w fun e w' => e = .returned (.bool (validTag x)) ∧ Below w.heap.size w w' := by
  obtain ⟨d, ws, hs⟩ := x
  have hlen := g1.len
  have hlt : B < w.heap.size := World.block_lt_of_cell? w _ hB0
  have K1 := Lib.hid g1; have K2 := Lib.hid g2; clear g1 g2
  have HV : Hid (validTag (d, ws, hs) = (withinB d 1 4 && withinB ws.length 1 200 && !ws.any (notTagW ws.length) && risB hs && allW hs 0 (ws.length - 1))) := rfl
  cases q1 : withinB d 1 4
  · rw [show validTag (d, ws, hs) = false from by rw [HV.out, q1]; rfl]
    go_enter Tryd.func83, Tryd.ntmps83
    go_wp2_with (go_at_call 52; refine (spec_l00In _ _ _ _).mono ?_; rintro e w' ⟨rfl, rfl⟩; rw [q1])
    go_ret
    exact ⟨rfl, Below.refl _ _⟩
  cases q2 : withinB ws.length 1 200
  · rw [show validTag (d, ws, hs) = false from by rw [HV.out, q2]; simp]
    go_enter Tryd.func83, Tryd.ntmps83
    go_wp2_with (go_at_call 52; refine (spec_l00In _ _ _ _).mono ?_; rintro e w' ⟨rfl, rfl⟩; first | rw [q1] | rw [q2])
    go_ret
    exact ⟨rfl, Below.refl _ _⟩
  have q2' := withinB_true.1 q2
  have hz1 : (1 : Int) ≤ ws.length := q2'.1
  have hz2 : (ws.length : Int) ≤ 200 := q2'.2
  clear q2'
  cases q3 : risB hs && allW hs 0 (ws.length - 1)
  · rw [show validTag (d, ws, hs) = false from by rw [HV.out]; simp only [Bool.and_assoc]; rw [q3]; simp]
    go_enter Tryd.func83, Tryd.ntmps83
    go_wp2_with (first | (go_at_call 52; refine (spec_l00In _ _ _ _).mono ?_; rintro e w' ⟨rfl, rfl⟩; first | rw [q1] | rw [q2]) | (go_at_call 124; refine (spec_l00Rises _ _ _ _ _ _ K2.out).mono ?_; rintro e w1 ⟨rfl, hb⟩; rw [q3]; have HB := Lib.hid hb; clear hb))
    go_ret
    exact ⟨rfl, HB.out⟩
  rw [show validTag (d, ws, hs) = !ws.any (notTagW ws.length) from by rw [HV.out]; simp only [Bool.and_assoc]; rw [q3, q1, q2]; simp]
  go_enter Tryd.func83, Tryd.ntmps83
  go_wp2_with (first | (go_at_call 52; refine (spec_l00In _ _ _ _).mono ?_; rintro e w' ⟨rfl, rfl⟩; first | rw [q1] | rw [q2]) | (go_at_call 124; refine (spec_l00Rises _ _ _ _ _ _ K2.out).mono ?_; rintro e w1 ⟨rfl, hb⟩; rw [q3]; have b1 : w1.cell? ⟨B, 1, none⟩ = some (.slice A1 ws.length c1) := (hb.cell (p := ⟨B, 1, none⟩) hlt).trans hB1; have HB := Lib.hid hb; clear hb))
  go_loop [4] (fun i => ∃ k : Nat, k ≤ ws.length ∧ i = .int .i64 k ∧ Hid ((ws.take k).any (notTagW ws.length) = false)) (fun i => ws.length - (intOf i).toNat)
  case atStart => exact ⟨0, Nat.zero_le _, rfl, rfl⟩
  case round =>
    obtain ⟨k, hk, rfl, HN⟩ := hrel
    by_cases hlt : k < ws.length
    · have hltz : (k : Int) < (ws.length : Int) := by omega
      obtain ⟨b, off, es, rfl, hb, ⟨A', c', rfl, g⟩, hc⟩ := K1.out.at1 rfl hlt
      have d0 : w1.cell? ⟨b, off + k, none⟩ = some (.slice A' ws[k].length c') := (below_olds HB.out _ hb).trans (hc _ rfl)
      clear hc
      have HG := Lib.hid (spec_l09Over _ _ _ ws.length w1 (g.on HB.out) hz1 (by omega)); clear g
      have HT : Hid (notTagW ws.length ws[k] = true → ws.any (notTagW ws.length) = true) := fun e => any_hit hlt e
      have HS : Hid (notTagW ws.length ws[k] = false → (ws.take (k + 1)).any (notTagW ws.length) = false) := fun e => any_step hlt HN.out e
      generalize ws[k] = y at d0 HT HS HG
      cases q1 : isTagW y ws.length
      · have HF := Lib.hid (HT.out (by unfold notTagW; rw [q1]; rfl))
        go_wp2_with (go_at_call 125; refine HG.out.mono ?_; rintro e w' ⟨rfl, rfl⟩; rw [q1])
        go_ret
        exact ⟨ret_bool (by rw [HF.out]; rfl), HB.out⟩
      · have HF := Lib.hid (HS.out (by unfold notTagW; rw [q1]; rfl))
        go_wp2_with (go_at_call 125; refine HG.out.mono ?_; rintro e w' ⟨rfl, rfl⟩; rw [q1])
        go_round
        case rel => exact ⟨k + 1, by omega, by go_num, HF.out⟩
        case measure => simp [intOf]; omega
    · have hltz : ¬ (k : Int) < (ws.length : Int) := by omega
      obtain rfl : k = ws.length := by omega
      have hn := HN.out
      rw [List.take_length] at hn
      have HV2 := Lib.hid hn; clear hn
      go_wp2
      go_ret
      exact ⟨ret_bool (by rw [HV2.out]; rfl), HB.out⟩

theorem left_ok {l : Int} {n : Nat} (h : ¬ left l n < 0) : left l n = l - (n : Int) ∧ (n : Int) ≤ l := by
  unfold left at *; split at h <;> simp_all <;> omega

theorem allW_mem {xs : List Int} {lo hi : Int} (h : allW xs lo hi = true) : ∀ x ∈ xs, lo ≤ x ∧ x ≤ hi := by
  intro x hx
  unfold allW outB at h
  simp at h
  exact withinB_true.1 (h x hx)

/-- The library's table that the decimal forms are made with. -/
def Glob (w : World) : Prop := Lib.TabIs Tryd.prog w "internal/strconv.uint64pow10" .u64 Lib.pow10Tab

theorem globNum : Tryd.prog.globalNamed "internal/strconv.uint64pow10" = some 0 := by kernel_rfl

theorem Held.glob {w0 w : World} {rs : List Res} (h : Held Nob w0 rs w) (hG : Glob w0) : Glob w := tab_below globNum hG h.below

theorem grow_below (w : World) (k : Nat) (os : Array Obj) : Below w.heap.size w (Go.Sort.grow (w.drewN k) os) :=
  ⟨rfl, rfl, rfl, by show w.heap.size ≤ (w.heap ++ os).size; rw [Array.size_append]; omega, fun b hb => Go.Sort.heap_grow_old (w.drewN k) os hb⟩

def shelf_M173_ren : Go.Shelf.Ren := ⟨fun | 173 => 108 | 246 => 149 | 283 => 168 | 284 => 169 | 285 => 170 | 286 => 171 | 129 => 180 | 317 => 179 | 318 => 181 | 319 => 182 | 320 => 183 | 337 => 186 | 338 => 187 | n => n, fun | 2 => 2 | 3 => 3 | 9 => 9 | 4 => 4 | 171 => 211 | 0 => 0 | 53 => 212 | 37 => 159 | 5 => 5 | 173 => 215 | 212 => 226 | 51 => 222 | 20 => 20 | 213 => 227 | 46 => 229 | 232 => 232 | 233 => 233 | n => n, fun | 17 => 0 | 18 => 2 | 19 => 3 | n => n⟩

theorem shelf_M173 : Go.Proofs.LaysM.n173 Tryd.prog shelf_M173_ren := {
  mixed := by kernel_rfl
  f129 := Tryd.func180.trans (congrArg some (by kernel_rfl))
  f173 := Tryd.func108.trans (congrArg some (by kernel_rfl))
  f246 := Tryd.func149.trans (congrArg some (by kernel_rfl))
  f283 := Tryd.func168.trans (congrArg some (by kernel_rfl))
  f284 := Tryd.func169.trans (congrArg some (by kernel_rfl))
  f285 := Tryd.func170.trans (congrArg some (by kernel_rfl))
  f286 := Tryd.func171.trans (congrArg some (by kernel_rfl))
  f317 := Tryd.func179.trans (congrArg some (by kernel_rfl))
  f318 := Tryd.func181.trans (congrArg some (by kernel_rfl))
  f319 := Tryd.func182.trans (congrArg some (by kernel_rfl))
  f320 := Tryd.func183.trans (congrArg some (by kernel_rfl))
  f337 := Tryd.func186.trans (congrArg some (by kernel_rfl))
  f338 := Tryd.func187.trans (congrArg some (by kernel_rfl))
  t0 := Tryd.underlying0
  a0 := Tryd.isAgg0
  z0 := Tryd.sizeOf0
  v0 := Tryd.zeroValue0
  t2 := Tryd.underlying2
  a2 := Tryd.isAgg2
  z2 := Tryd.sizeOf2
  v2 := Tryd.zeroValue2
  t3 := Tryd.underlying3
  a3 := Tryd.isAgg3
  z3 := Tryd.sizeOf3
  v3 := Tryd.zeroValue3
  t4 := Tryd.underlying4
  a4 := Tryd.isAgg4
  z4 := Tryd.sizeOf4
  v4 := Tryd.zeroValue4
  t5 := Tryd.underlying5
  a5 := Tryd.isAgg5
  z5 := Tryd.sizeOf5
  v5 := Tryd.zeroValue5
  t9 := Tryd.underlying9
  a9 := Tryd.isAgg9
  z9 := Tryd.sizeOf9
  v9 := Tryd.zeroValue9
  t20 := Tryd.underlying20
  a20 := Tryd.isAgg20
  z20 := Tryd.sizeOf20
  v20 := Tryd.zeroValue20
  t37 := Tryd.underlying159
  a37 := Tryd.isAgg159
  z37 := Tryd.sizeOf159
  v37 := Tryd.zeroValue159
  t46 := Tryd.underlying229
  a46 := Tryd.isAgg229
  z46 := Tryd.sizeOf229
  v46 := Tryd.zeroValue229
  t51 := Tryd.underlying222
  a51 := Tryd.isAgg222
  z51 := Tryd.sizeOf222
  v51 := Tryd.zeroValue222
  t53 := Tryd.underlying212
  a53 := Tryd.isAgg212
  z53 := Tryd.sizeOf212
  v53 := Tryd.zeroValue212
  t171 := Tryd.underlying211
  a171 := Tryd.isAgg211
  z171 := Tryd.sizeOf211
  v171 := Tryd.zeroValue211
  t173 := Tryd.underlying215
  a173 := Tryd.isAgg215
  z173 := Tryd.sizeOf215
  v173 := Tryd.zeroValue215
  t212 := Tryd.underlying226
  a212 := Tryd.isAgg226
  z212 := Tryd.sizeOf226
  v212 := Tryd.zeroValue226
  t213 := Tryd.underlying227
  a213 := Tryd.isAgg227
  z213 := Tryd.sizeOf227
  t232 := Tryd.underlying232
  a232 := Tryd.isAgg232
  z232 := Tryd.sizeOf232
  v232 := Tryd.zeroValue232
  t233 := Tryd.underlying233
  a233 := Tryd.isAgg233
  z233 := Tryd.sizeOf233
  v233 := Tryd.zeroValue233
  g17 := by kernel_rfl
  g18 := by kernel_rfl
  g19 := by kernel_rfl
  i0 := by kernel_rfl
  i2 := by kernel_rfl
  i3 := by kernel_rfl
  i4 := by kernel_rfl
  i5 := by kernel_rfl
  i9 := by kernel_rfl
  i20 := by kernel_rfl
  i37 := by kernel_rfl
  i46 := by kernel_rfl
  i51 := by kernel_rfl
  i53 := by kernel_rfl
  i171 := by kernel_rfl
  i173 := by kernel_rfl
  i212 := by kernel_rfl
  i232 := by kernel_rfl
  i233 := by kernel_rfl
  m17 := by kernel_rfl
  m18 := by kernel_rfl
  m19 := by kernel_rfl }

def shelf_156_ren : Go.Shelf.Ren := ⟨fun | 156 => 61 | 165 => 109 | 166 => 110 | 169 => 111 | 240 => 150 | 241 => 151 | 276 => 172 | 277 => 173 | n => n, fun | 31 => 106 | 9 => 9 | 3 => 3 | 4 => 4 | 0 => 0 | 20 => 20 | 72 => 161 | 76 => 165 | 70 => 158 | 37 => 159 | 75 => 164 | 127 => 198 | 164 => 217 | 5 => 5 | 80 => 167 | n => n, fun | n => n⟩

theorem shelf_156 : Go.Proofs.Lays.n156 Tryd.prog shelf_156_ren := {
  mixed := by kernel_rfl
  f156 := Tryd.func61.trans (congrArg some (by kernel_rfl))
  f165 := Tryd.func109.trans (congrArg some (by kernel_rfl))
  f166 := Tryd.func110.trans (congrArg some (by kernel_rfl))
  f169 := Tryd.func111.trans (congrArg some (by kernel_rfl))
  f240 := Tryd.func150.trans (congrArg some (by kernel_rfl))
  f241 := Tryd.func151.trans (congrArg some (by kernel_rfl))
  f276 := Tryd.func172.trans (congrArg some (by kernel_rfl))
  f277 := Tryd.func173.trans (congrArg some (by kernel_rfl))
  t0 := Tryd.underlying0
  a0 := Tryd.isAgg0
  z0 := Tryd.sizeOf0
  v0 := Tryd.zeroValue0
  t3 := Tryd.underlying3
  a3 := Tryd.isAgg3
  z3 := Tryd.sizeOf3
  v3 := Tryd.zeroValue3
  t4 := Tryd.underlying4
  a4 := Tryd.isAgg4
  z4 := Tryd.sizeOf4
  v4 := Tryd.zeroValue4
  t9 := Tryd.underlying9
  a9 := Tryd.isAgg9
  z9 := Tryd.sizeOf9
  v9 := Tryd.zeroValue9
  t20 := Tryd.underlying20
  a20 := Tryd.isAgg20
  z20 := Tryd.sizeOf20
  v20 := Tryd.zeroValue20
  t31 := Tryd.underlying106
  a31 := Tryd.isAgg106
  z31 := Tryd.sizeOf106
  v31 := Tryd.zeroValue106
  t37 := Tryd.underlying159
  a37 := Tryd.isAgg159
  z37 := Tryd.sizeOf159
  v37 := Tryd.zeroValue159
  t70 := Tryd.underlying158
  a70 := Tryd.isAgg158
  z70 := Tryd.sizeOf158
  v70 := Tryd.zeroValue158
  t72 := Tryd.underlying161
  a72 := Tryd.isAgg161
  z72 := Tryd.sizeOf161
  v72 := Tryd.zeroValue161
  t75 := Tryd.underlying164
  a75 := Tryd.isAgg164
  z75 := Tryd.sizeOf164
  v75 := Tryd.zeroValue164
  t76 := Tryd.underlying165
  a76 := Tryd.isAgg165
  z76 := Tryd.sizeOf165
  v76 := Tryd.zeroValue165
  t127 := Tryd.underlying198
  a127 := Tryd.isAgg198
  z127 := Tryd.sizeOf198
  v127 := Tryd.zeroValue198
  t164 := Tryd.underlying217
  a164 := Tryd.isAgg217
  z164 := Tryd.sizeOf217
  v164 := Tryd.zeroValue217 }

theorem shelf_X_Builder_Extra_156 : Builder.Extra Tryd.prog shelf_156_ren where
  sizeBuilder := by kernel_rfl
  liesBuilder := by kernel_rfl
  t5 := Tryd.underlying5
  a5 := Tryd.isAgg5
  z5 := Tryd.sizeOf5
  v5 := Tryd.zeroValue5
  infoByte := by kernel_rfl
  cellsByte := by kernel_rfl
  sizeByte := by kernel_rfl
  neB5 := by decide

theorem FormatInt_10 (a0 a1 : Int) (w : World) (hG : Glob w) (s0 : -9223372036854775808 ≤ a0 ∧ a0 ≤ 9223372036854775807) (s1 : a1 = 10) :
    Calls Tryd.prog 108 #[.int .i64 a0, .int .i64 a1] w fun e w' => e = .returned (.string (bs (Go.Lib.itoa a0))) ∧ Below w.heap.size w w' := by
  subst s1
  refine (show Calls Tryd.prog 108 #[.int .i64 a0, .int .i64 10] w _ from Any.strconv_FormatInt_10 shelf_M173 a0 s0.1 s0.2 w hG).mono ?_
  rintro e w' ⟨rfl, k, os, rfl⟩
  exact ⟨rfl, grow_below _ _ _⟩

theorem map_bs (xs : List (List UInt8)) : (xs.map bs).map (fun x : ByteArray => x.data.toList) = xs := by
  rw [List.map_map]
  exact (List.map_congr_left fun x _ => by simp [bs]).trans (List.map_id xs)

theorem Join_Str (A : Option Addr) (c : Nat) (a0 : List (List UInt8)) (a1 : List UInt8) (w : World) (h0 : Sl eTxt w (Old w) A c a0) (s0 : a0.length ≤ 1000000000) (s1 : (Go.Lib.join a0 a1).length ≤ 1000000000) :
    Calls Tryd.prog 61 #[.slice A a0.length c, .string (bs a1)] w fun e w' => e = .returned (.string (bs (Go.Lib.join a0 a1))) ∧ Below w.heap.size w w' := by
  by_cases hx : a0 = []
  · subst hx
    refine (show Calls Tryd.prog 61 #[.slice A 0 c, .string (bs a1)] w _ from Any.strings_Join_none shelf_156 shelf_X_Builder_Extra_156 A c (bs a1) w).mono ?_
    rintro e w' ⟨rfl, rfl⟩
    exact ⟨rfl, Below.refl _ _⟩
  · obtain ⟨b, off, rfl, hb, hc⟩ := h0.2.2 hx
    have hl : a0.length = (a0.map bs).length := (List.length_map _).symm
    have hj : Go.Lib.join ((a0.map bs).map (·.data.toList)) (bs a1).data.toList = Go.Lib.join a0 a1 := by rw [map_bs]
    rw [hl]
    refine (show Calls Tryd.prog 61 #[.slice (some ⟨b, off, none⟩) (a0.map bs).length c, .string (bs a1)] w _ from Any.strings_Join shelf_156 shelf_X_Builder_Extra_156 b off c (a0.map bs) (bs a1) w ?_ hb (by rw [← hl]; omega) (by rw [← hl]; exact h0.1) (by rw [hj]; omega)).mono ?_
    · intro j x hjx
      rw [List.getElem?_map, Option.map_eq_some_iff] at hjx
      obtain ⟨y, hy, rfl⟩ := hjx
      obtain ⟨es, ⟨rfl, _⟩, h2⟩ := hc j y hy
      have := h2 0 _ rfl
      rwa [show off + j * eTxt.size + 0 = off + j from by simp [eTxt]] at this
    · rintro e w' ⟨rfl, h2⟩
      rw [hj]
      exact ⟨rfl, h2⟩

/-- The decimal digits of a number, the last one first, as bytes; none for 0. -/
def lowD (n : Nat) : List Int := if h : n = 0 then [] else (48 + (n % 10 : Nat) : Int) :: lowD (n / 10)
termination_by n
decreasing_by omega

theorem lowD_zero : lowD 0 = [] := by rw [lowD, dif_pos rfl]

theorem lowD_pos {n : Nat} (h : 0 < n) : lowD n = (48 + (n % 10 : Nat) : Int) :: lowD (n / 10) := by rw [lowD, dif_neg (by omega)]

theorem bytesOf_app (a b : List Int) : Go.Lib.bytesOf (a ++ b) = Go.Lib.bytesOf a ++ Go.Lib.bytesOf b := by simp [Go.Lib.bytesOf]

theorem bytesOf_one (a : Nat) : Go.Lib.bytesOf [(48 + (a : Nat) : Int)] = [UInt8.ofNat (48 + a)] := by
  simp only [Go.Lib.bytesOf, List.map_cons, List.map_nil]
  rw [show (48 + (a : Int)).toNat = 48 + a from by omega]

theorem lowD_dec (n : Nat) (h : 0 < n) : Go.Lib.bytesOf (lowD n).reverse = Go.Lib.decDigits n := by
  induction n using Nat.strongRecOn with
  | _ n ih =>
    rw [lowD_pos h, List.reverse_cons, bytesOf_app, bytesOf_one, Go.Lib.decDigits]
    by_cases h1 : n < 10
    · rw [dif_pos h1, show n / 10 = 0 from by omega, lowD_zero, Nat.mod_eq_of_lt h1]; rfl
    · rw [dif_neg h1, ih (n / 10) (by omega) (by omega)]

theorem nDigits_le (k : Nat) : ∀ n : Nat, n < 10 ^ (k + 1) → Go.Lib.nDigits n ≤ k + 1 := by
  induction k with
  | zero => intro n h; rw [Go.Lib.nDigits_small (by simpa using h)]; omega
  | succ k ih =>
    intro n h
    by_cases h1 : n < 10
    · rw [Go.Lib.nDigits_small h1]; omega
    · rw [Go.Lib.nDigits_big h1]; have := ih (n / 10) (by rw [Nat.pow_succ] at h; omega); omega

theorem itoa_len {n : Int} (h : -9223372036854775808 ≤ n ∧ n ≤ 9223372036854775807) : 1 ≤ (Go.Lib.itoa n).length ∧ (Go.Lib.itoa n).length ≤ 20 := by
  unfold Go.Lib.itoa
  split
  · have h1 := nDigits_le 18 n.natAbs (by omega)
    have h2 := Go.Lib.nDigits_pos n.natAbs
    rw [List.length_cons, Go.Lib.decDigits_length]; omega
  · have h1 := nDigits_le 18 n.toNat (by omega)
    have h2 := Go.Lib.nDigits_pos n.toNat
    rw [Go.Lib.decDigits_length]; omega

theorem itoa_low {n : Int} (h : 0 < n) : Go.Lib.itoa n = Go.Lib.bytesOf (lowD n.toNat).reverse := by
  rw [lowD_dec _ (by omega)]; unfold Go.Lib.itoa; rw [if_neg (by omega)]

theorem join_snoc (xs : List (List UInt8)) (y sep : List UInt8) : Go.Lib.join (xs ++ [y]) sep = if xs = [] then y else Go.Lib.join xs sep ++ sep ++ y := by
  cases xs with
  | nil => rw [if_pos rfl, List.nil_append, Go.Lib.join_one]
  | cons x r => rw [if_neg (by simp), List.cons_append, Go.Lib.join_cons, Go.Lib.join_cons]; simp [Go.Lib.joinTail]

theorem join_step {α : Type} (f : α → List UInt8) (l : List α) {k : Nat} (hk : k < l.length) (sep : List UInt8) : Go.Lib.join ((l.take (k + 1)).map f) sep = if k = 0 then f l[k] else Go.Lib.join ((l.take k).map f) sep ++ sep ++ f l[k] := by
  rw [List.take_succ_eq_append_getElem hk, List.map_append, List.map_cons, List.map_nil, join_snoc]
  by_cases h : k = 0
  · subst h; simp
  · rw [if_neg h, if_neg]
    intro h2
    have h3 := congrArg List.length h2
    rw [List.length_map, List.length_take, List.length_nil] at h3
    omega

theorem join_len (B : Nat) (sep : List UInt8) : ∀ xs : List (List UInt8), (∀ x ∈ xs, x.length ≤ B) → (Go.Lib.join xs sep).length ≤ xs.length * (B + sep.length)
  | [], _ => by simp [Go.Lib.join_nil]
  | x :: r, h => by
    have h1 := h x (by simp)
    have h2 : Go.Lib.lens r ≤ r.length * B := by
      have h3 : ∀ y ∈ r, y.length ≤ B := fun y hy => h y (by simp [hy])
      clear h
      induction r with
      | nil => simp [Go.Lib.lens]
      | cons y r ih =>
        have h4 := ih fun z hz => h3 z (by simp [hz])
        have h5 := h3 y (by simp)
        simp only [Go.Lib.lens, List.map_cons, List.sum_cons, List.length_cons, Nat.succ_mul] at h4 ⊢
        omega
    rw [Go.Lib.join_length, List.length_cons, Nat.succ_mul]
    simp only [Go.Lib.lens, List.map_cons, List.sum_cons] at h2 ⊢
    have h6 : sep.length * r.length = r.length * sep.length := Nat.mul_comm _ _
    have h7 : r.length * (B + sep.length) = r.length * B + r.length * sep.length := Nat.mul_add _ _ _
    omega

theorem drop_revI {α : Type} {l : List α} {k : Nat} (h0 : 0 < k) (h1 : k ≤ l.length) : (l.drop (k - 1)).reverse = (l.drop k).reverse ++ [l[k - 1]] := by
  rw [List.drop_eq_getElem_cons (by omega : k - 1 < l.length), List.reverse_cons, show k - 1 + 1 = k from by omega]

/-- Numbers in decimal, with something between them. -/
def decs (l : List Int) (b : List UInt8) : List UInt8 := Go.Lib.join (l.map Go.Lib.itoa) b

theorem Sl.i64 {w : World} {S : Nat → Prop} {A : Option Addr} {c : Nat} {xs : List Int} (h : Sl eInt w S A c xs) : ∀ x ∈ xs, -9223372036854775808 ≤ x ∧ x ≤ 9223372036854775807 := by
  intro x hx
  obtain ⟨i, hi⟩ := List.mem_iff_getElem?.1 hx
  obtain ⟨b, off, _, _, hc⟩ := h.2.2 (fun e => by rw [e] at hx; cases hx)
  obtain ⟨es, ⟨_, h1⟩, _⟩ := hc i x hi
  exact h1

theorem map_itoa_len {l : List Int} (h : ∀ x ∈ l, -9223372036854775808 ≤ x ∧ x ≤ 9223372036854775807) : ∀ y ∈ l.map Go.Lib.itoa, y.length ≤ 20 := by
  intro y hy
  obtain ⟨x, hx, rfl⟩ := List.mem_map.1 hy
  exact (itoa_len (h x hx)).2

theorem decs_len {l : List Int} {b : List UInt8} (h : ∀ x ∈ l, -9223372036854775808 ≤ x ∧ x ≤ 9223372036854775807) (hb : b.length ≤ 10) : (decs l b).length ≤ 30 * l.length := by
  have h1 := join_len 20 b (l.map Go.Lib.itoa) (map_itoa_len h)
  rw [List.length_map] at h1
  have h2 : l.length * (20 + b.length) ≤ l.length * 30 := Nat.mul_le_mul_left _ (by omega)
  unfold decs
  omega

theorem join_take_len {α : Type} {f : α → List UInt8} {l : List α} {sep : List UInt8} {B : Nat} (h : ∀ x ∈ l, (f x).length + sep.length ≤ B) (k : Nat) : (Go.Lib.join ((l.take k).map f) sep).length ≤ B * l.length := by
  by_cases hn : l = []
  · subst hn; simp [Go.Lib.join_nil]
  · obtain ⟨x0, hx0⟩ := List.exists_mem_of_ne_nil l hn
    have hs := h x0 hx0
    have h1 := join_len (B - sep.length) sep ((l.take k).map f) (by
      intro y hy
      obtain ⟨x, hx, rfl⟩ := List.mem_map.1 hy
      have := h x (List.mem_of_mem_take hx)
      omega)
    rw [List.length_map, List.length_take, show B - sep.length + sep.length = B from by omega] at h1
    have h2 : min k l.length * B ≤ l.length * B := Nat.mul_le_mul_right _ (by omega)
    rw [Nat.mul_comm B]
    omega

theorem join_step0 {α : Type} (f : α → List UInt8) (l : List α) {k : Nat} (hk : k < l.length) (h0 : k = 0) (sep : List UInt8) : Go.Lib.join ((l.take (k + 1)).map f) sep = Go.Lib.join ((l.take k).map f) sep ++ f l[k] := by
  rw [join_step f l hk, if_pos h0]; subst h0; simp [Go.Lib.join_nil]

theorem join_step1 {α : Type} (f : α → List UInt8) (l : List α) {k : Nat} (hk : k < l.length) (h0 : 0 < k) (sep : List UInt8) : Go.Lib.join ((l.take (k + 1)).map f) sep = Go.Lib.join ((l.take k).map f) sep ++ sep ++ f l[k] := by
  rw [join_step f l hk, if_neg (by omega)]

theorem decs_take_len {l : List Int} {b : List UInt8} (h : ∀ x ∈ l, -9223372036854775808 ≤ x ∧ x ≤ 9223372036854775807) (hb : b.length ≤ 10) (k : Nat) : (Go.Lib.join ((l.take k).map Go.Lib.itoa) b).length ≤ 30 * l.length :=
  join_take_len (fun x hx => by have := itoa_len (h x hx); omega) k

theorem ne_nil {α : Type} {l : List α} (h : ¬ l.length = 0) : ¬ l = [] := fun e => h (by rw [e]; rfl)

theorem eq_nil {α : Type} {l : List α} (h : l.length = 0) : l = [] := List.eq_nil_of_length_eq_zero h

set_option maxRecDepth 100000 in
set_option maxHeartbeats 4000000 in
theorem impl_Decimal (a0 : Int) (w : World) (hG : Glob w) (s0 : -9223372036854775808 ≤ a0 ∧ a0 ≤ 9223372036854775807) :
    Calls Tryd.prog 60 #[.int .i64 a0] w fun e w' => e = .returned (.string (bs (Go.Lib.itoa a0))) ∧ Below w.heap.size w w' := by
  have HH1 := Held.start Nob w
  refine enter (n := 5) Tryd.func60 rfl rfl rfl fun a_2 HE3 => ?_
  refine wp_seq ?_
  refine rg ?_
  refine pl_x HE3 HH1 (wt0 rfl) (x_assign rfl) rfl rfl fun a_4 HE5 => ?_
  refine wpList_nil ?_
  clear a_2 HE3
  refine nrm ?_
  refine wp_seq ?_
  refine rg ?_
  refine pl_x HE5 HH1 (wt0 rfl) (x_move rfl) rfl rfl fun a_6 HE7 => ?_
  refine pl fun K_8 hK9 => ?_
  refine st_call HE7 (wt0 rfl) rfl rfl rfl en_108 rfl rfl (FormatInt_10 a0 10 _ (HH1.glob hG) (by omega) (by rfl)) fun e w' hr => ?_
  have hAr21_0 := itoa_len (n := a0) (by omega)
  obtain ⟨rfl, hbr21⟩ := hr
  have HH10 := HH1.on hbr21
  refine ⟨_, rfl, fun a_11 HE12 => hK9 _ _ ?_⟩
  refine pl_x HE12 HH10 (wt0 rfl) (x_assign rfl) rfl rfl fun a_13 HE14 => ?_
  refine wpList_nil ?_
  clear a_4 HE5 HH1 a_6 HE7 a_11 HE12 hK9 K_8
  refine nrm ?_
  refine wp_ret ?_
  refine ret1 HE14 rfl (rv_tmp rfl) ?_
  have hF : (Go.Lib.itoa a0) = (Go.Lib.itoa a0) := by
    first | rfl | (simp [Go.Lib.itoa]; done) | (simp [Go.Lib.itoa]; omega) | grind [Go.Lib.itoa]
  exact ⟨by first | (rw [hF] <;> rfl) | rfl | (rw [hF]; simp only [Ending.returned.injEq, Value.slice.injEq, true_and, and_true]; first | omega | (simp; done)) | (rw [hF]; simp; omega), HH10.below⟩

set_option maxRecDepth 100000 in
set_option maxHeartbeats 4000000 in
theorem spec_l01Dec (a0 : Int) (w : World) (s0 : 0 ≤ a0 ∧ a0 ≤ 100000000000000) :
    Calls Tryd.prog 103 #[.int .i64 a0] w fun e w' => e = .returned (.string (bs (Go.Lib.itoa a0))) ∧ Below w.heap.size w w' := by
  have HH1 := Held.start Nob w
  refine enter (n := 50) Tryd.func103 rfl rfl rfl fun a_2 HE3 => ?_
  refine wp_seq ?_
  refine rg ?_
  refine pl_x HE3 HH1 (wt0 rfl) (x_assign rfl) rfl rfl fun a_4 HE5 => ?_
  refine wpList_nil ?_
  clear a_2 HE3
  refine nrm ?_
  refine wp_seq ?_
  refine wp_seq ?_
  refine rg ?_
  refine pl_x HE5 HH1 (wt0 rfl) (x_move rfl) rfl rfl fun a_6 HE7 => ?_
  refine pl_x HE7 HH1 (wt0 rfl) (x_eql rfl rfl) rfl rfl fun a_8 HE9 => ?_
  refine wpList_nil ?_
  clear a_4 HE5 a_6 HE7
  refine nrm ?_
  refine cnd_e HE9 rfl (fun hc21 => ?_) (fun hc21 => ?_)
  · refine wp_seq ?_
    refine rg ?_
    refine pl_x HE9 HH1 (wt0 rfl) (x_assign rfl) rfl rfl fun a_10 HE11 => ?_
    refine wpList_nil ?_
    clear a_8 HE9
    refine nrm ?_
    refine wp_ret ?_
    refine (thn_ret ?_)
    refine ret1 HE11 rfl (rv_tmp rfl) ?_
    have hF : (Go.Lib.itoa a0) = [48] := by
      first | (rw [show a0 = 0 from by omega]; simp [Go.Lib.itoa, Go.Lib.decDigits]; done) | (rw [itoa_low (by omega), ‹lowD a0.toNat = _›, show u = 0 from by omega, lowD_zero, List.append_nil, show k = 0 from by omega, List.drop_zero])
    exact ⟨by first | (rw [hF] <;> rfl) | rfl | (rw [hF]; simp only [Ending.returned.injEq, Value.slice.injEq, true_and, and_true]; first | omega | (simp; done)) | (rw [hF]; simp; omega), HH1.below⟩
  · refine wp_skip ?_
    refine nrm ?_
    refine wp_seq ?_
    refine rg ?_
    refine pl fun K_12 hK13 => ?_
    refine st_lit (m := 0) (cs := []) (e := 5) HE9 HH1 (run_lit ts_159 HE9 (vs := []) rfl rfl (by simp [Value.cells]) rfl (by decide)) (wt0 rfl) rfl rfl fun q22 a_14 w' HE15 HH16 => hK13 _ _ ?_
    refine pl_x HE15 HH16 (wt0 rfl) (x_assign rfl) rfl rfl fun a_17 HE18 => ?_
    refine wpList_nil ?_
    clear a_8 HE9 HH1 a_14 HE15 hK13 K_12
    refine nrm ?_
    refine wp_seq ?_
    refine wp_seq ?_
    refine rg ?_
    refine pl_x HE18 HH16 (wt0 rfl) (x_move rfl) rfl rfl fun a_19 HE20 => ?_
    refine pl_x HE20 HH16 (wt0 rfl) (x_assign rfl) rfl rfl fun a_21 HE22 => ?_
    refine wpList_nil ?_
    clear a_17 HE18 a_19 HE20
    refine nrm ?_
    refine wp_block ?_
    have HH23 := Held.vecFlat (E := eByte) (xs := []) (css := []) HH16 rfl (Nat.zero_le _) (fun i x hx => by simp at hx)
    refine lp (fun m a w' => ∃ (u : Nat) (l : List Int) (A_3 : Option Addr) (c_3 : Nat) (S_3 : Nat → Prop), m = 0 + u ∧ Env 50 [(3, .slice A_3 (List.length l) c_3), (4, .int .i64 (u : Int)), (0, .int .i64 (a0))] a ∧ Held Nob w [rVec eByte 5 S_3 A_3 c_3 l] w' ∧ (lowD a0.toNat = l ++ lowD u) ∧ (l.length + u ≤ a0.toNat)) (0 + (a0.toNat)) ?_ ?_
    · have E23 : ([]) = ([] : List Int) := by
        first | rfl | simp
      exact ⟨a0.toNat, [], (some ⟨q22, 0, none⟩), (List.length (α := Int) []), (fun b => b = q22), rfl, HE22.sub ⟨(by rw [E23]; rfl), (lkI rfl (by omega)), rfl, trivial⟩, ((HH23.sel [0] (by decide) rfl).to (by first | rfl | (rw [E23]; done) | (rw [E23]; rfl) | (simp only [E23]; done) | (simp only [E23]; rfl))), (by rfl), (by first | omega | assumption | (simp; done) | simp_all)⟩
    · rintro m a_24 w' ⟨u, l, A_3, c_3, S_3, rfl, HE25, HH26, p24_0, p24_1⟩
      refine wp_seq ?_
      refine wp_seq ?_
      refine rg ?_
      refine pl_x HE25 HH26 (wt0 rfl) (x_move rfl) rfl rfl fun a_27 HE28 => ?_
      refine pl_x HE28 HH26 (wt0 rfl) (x_neq rfl rfl) rfl rfl fun a_29 HE30 => ?_
      refine wpList_nil ?_
      clear HH16 a_21 HE22 HH23 a_24 HE25 a_27 HE28
      refine nrm ?_
      refine cnd_ne HE30 rfl (fun hc25 => ?_) (fun hc25 => ?_)
      · refine wp_skip ?_
        refine nrm ?_
        refine wp_seq ?_
        refine wp_block ?_
        refine wp_seq ?_
        refine rg ?_
        refine pl_x HE30 HH26 (wt0 rfl) (x_move rfl) rfl rfl fun a_31 HE32 => ?_
        refine pl_x HE32 HH26 (wt0 rfl) (x_rem rfl rfl (by omega) (by omega)) rfl rfl fun a_33 HE34 => ?_
        refine pl_x HE34 HH26 (wt0 rfl) (x_assign rfl) rfl rfl fun a_35 HE36 => ?_
        refine wpList_nil ?_
        clear a_29 HE30 a_31 HE32 a_33 HE34
        refine nrm ?_
        refine wp_seq ?_
        refine wp_seq ?_
        refine rg ?_
        refine pl_x HE36 HH26 (wt0 rfl) (x_move rfl) rfl rfl fun a_37 HE38 => ?_
        refine pl_x HE38 HH26 (wt0 rfl) (x_lss rfl rfl) rfl rfl fun a_39 HE40 => ?_
        refine wpList_nil ?_
        clear a_35 HE36 a_37 HE38
        refine nrm ?_
        refine cnd_d HE40 rfl (fun hc26 => ?_) (fun hc26 => ?_)
        · exfalso; omega
        · refine wp_skip ?_
          refine nrm ?_
          refine rg ?_
          refine pl_x HE40 HH26 (wt0 rfl) (x_move rfl) rfl rfl fun a_41 HE42 => ?_
          refine pl_x HE42 HH26 (wt0 rfl) (x_move rfl) rfl rfl fun a_43 HE44 => ?_
          refine pl_x HE44 HH26 (wt0 rfl) (x_add rfl rfl (by exact ⟨by omega, by omega⟩)) rfl rfl fun a_45 HE46 => ?_
          refine pl_x HE46 HH26 (wt0 rfl) (x_conv8 Tryd.underlying2 Tryd.underlying5 rfl (by constructor <;> omega)) rfl rfl fun a_47 HE48 => ?_
          refine pl fun K_49 hK50 => ?_
          refine st_lit (m := 1) (cs := [.int .u8 ((48 + ((u : Int) % 10)))]) (e := 5) HE48 HH26 (run_lit ts_159 HE48 (vs := [.int .u8 ((48 + ((u : Int) % 10)))]) rfl rfl (by simp [Value.cells]) rfl (by decide)) (wt0 rfl) rfl rfl fun q27 a_51 w' HE52 HH53 => hK50 _ _ ?_
          refine pl fun K_54 hK55 => ?_
          refine st_app1F (48 + ((u : Int) % 10)) HE52 HH53 ts_159 [1, 0] (by decide) rfl (fun _ => (oY (by constructor <;> omega))) rfl rfl (by simp [Value.oneCell']) (by unfold maxLen; first | omega | (simp; done) | (simp; omega)) (by first | omega | (simp; done) | (simp; omega)) (wt0 rfl) rfl fun A28 c29 S30 a_56 w' HE57 HH58 => hK55 _ _ ?_
          refine pl_x HE57 HH58 (wt0 rfl) (x_assign rfl) rfl rfl fun a_59 HE60 => ?_
          refine wpList_nil ?_
          clear a_39 HE40 a_41 HE42 a_43 HE44 a_45 HE46 a_47 HE48 HH26 K_49 hK50 a_51 HE52 HH53 a_56 HE57 hK55 K_54
          refine blk_n ?_
          refine nrm ?_
          refine rg ?_
          refine pl_x HE60 HH58 (wt0 rfl) (x_move rfl) rfl rfl fun a_61 HE62 => ?_
          refine pl_x HE62 HH58 (wt0 rfl) (x_quo rfl rfl (by omega) (by omega) (by omega)) rfl rfl fun a_63 HE64 => ?_
          refine pl_x HE64 HH58 (wt0 rfl) (x_assign rfl) rfl rfl fun a_65 HE66 => ?_
          refine wpList_nil ?_
          clear a_59 HE60 a_61 HE62 a_63 HE64
          have E31 : ((l ++ [(48 + ((u : Int) % 10))])) = (l ++ [(48 + ((u : Int) % 10))]) := by
            first | rfl | simp
          exact nrm ⟨0 + (u / 10), (by omega), u / 10, (l ++ [(48 + ((u : Int) % 10))]), A28, c29, S30, rfl, HE66.sub ⟨(by rw [E31]; rfl), (lkI rfl (by omega)), rfl, trivial⟩, ((HH58.sel [0] (by decide) rfl).to (by first | rfl | (rw [E31]; done) | (rw [E31]; rfl) | (simp only [E31]; done) | (simp only [E31]; rfl))), (by rw [p24_0, lowD_pos (by omega)]; simp), (by simp; omega)⟩
      · refine wp_exit ?_
        refine (thn_exit (thn_exit (blk_hit ?_)))
        refine nrm ?_
        refine wp_seq ?_
        refine wp_seq ?_
        refine rg ?_
        refine pl_x HE30 HH26 (wt0 rfl) (x_move rfl) rfl rfl fun a_67 HE68 => ?_
        refine pl_x HE68 HH26 (wt0 rfl) (x_lss rfl rfl) rfl rfl fun a_69 HE70 => ?_
        refine wpList_nil ?_
        clear a_29 HE30 a_67 HE68
        refine nrm ?_
        refine cnd_d HE70 rfl (fun hc32 => ?_) (fun hc32 => ?_)
        · exfalso; omega
        · refine wp_skip ?_
          refine nrm ?_
          refine wp_seq ?_
          refine rg ?_
          refine pl fun K_71 hK72 => ?_
          refine st_lit (m := 0) (cs := []) (e := 5) HE70 HH26 (run_lit ts_159 HE70 (vs := []) rfl rfl (by simp [Value.cells]) rfl (by decide)) (wt0 rfl) rfl rfl fun q33 a_73 w' HE74 HH75 => hK72 _ _ ?_
          refine pl_x HE74 HH75 (wt0 rfl) (x_assign rfl) rfl rfl fun a_76 HE77 => ?_
          refine wpList_nil ?_
          clear a_69 HE70 HH26 a_73 HE74 hK72 K_71
          refine nrm ?_
          refine wp_seq ?_
          refine wp_seq ?_
          refine rg ?_
          refine pl_x HE77 HH75 (wt0 rfl) (x_move rfl) rfl rfl fun a_78 HE79 => ?_
          refine pl_x HE79 HH75 (wt0 rfl) (x_len Tryd.underlying159 rfl) rfl rfl fun a_80 HE81 => ?_
          refine pl_x HE81 HH75 (wt0 rfl) (x_sub rfl rfl (by exact ⟨by omega, by omega⟩)) rfl rfl fun a_82 HE83 => ?_
          refine pl_x HE83 HH75 (wt0 rfl) (x_assign rfl) rfl rfl fun a_84 HE85 => ?_
          refine wpList_nil ?_
          clear a_76 HE77 a_78 HE79 a_80 HE81 a_82 HE83
          refine nrm ?_
          refine wp_block ?_
          have HH86 := Held.vecFlat (E := eByte) (xs := []) (css := []) HH75 rfl (Nat.zero_le _) (fun i x hx => by simp at hx)
          have HH87 := HH86.sel [1, 0] (by decide) rfl
          have HH88 := HH87.vecSo
          refine lp (fun m a w' => ∃ (k : Nat) (A_6 : Option Addr) (c_6 : Nat) (S_6 : Nat → Prop), m = 0 + k ∧ Env 50 [(6, .slice A_6 (List.length ((l.drop k).reverse)) c_6), (7, .int .i64 ((k : Int) - 1)), (3, .slice A_3 ((List.length l)) c_3)] a ∧ Held Nob w [rVec eByte 5 S_6 A_6 c_6 ((l.drop k).reverse), rSo eByte S_3 A_3 c_3 l] w' ∧ (k ≤ l.length)) (0 + (l.length)) ?_ ?_
          · have E34 : (l.drop (l.length)).reverse = ([] : List Int) := by
              simp
            exact ⟨l.length, (some ⟨q33, 0, none⟩), (List.length (α := Int) []), (fun b => b = q33), rfl, HE85.sub ⟨(by rw [E34]; rfl), (lkI rfl (by first | rfl | omega | (simp [hc21, p24_0, p24_1, hc25, hc32]; done))), rfl, trivial⟩, ((HH88.sel [1, 0] (by decide) rfl).to (by first | rfl | (rw [E34]; done) | (rw [E34]; rfl) | (simp only [E34]; done) | (simp only [E34]; rfl))), (by first | omega | assumption | (simp; done) | simp_all)⟩
          · rintro m a_89 w' ⟨k, A_6, c_6, S_6, rfl, HE90, HH91, p35_0⟩
            have ol : (l.drop k).reverse.length ≤ l.length := by simp
            refine wp_seq ?_
            refine wp_seq ?_
            refine rg ?_
            refine pl_x HE90 HH91 (wt0 rfl) (x_move rfl) rfl rfl fun a_92 HE93 => ?_
            refine pl_x HE93 HH91 (wt0 rfl) (x_geq rfl rfl) rfl rfl fun a_94 HE95 => ?_
            refine wpList_nil ?_
            clear HH75 HH86 HH87 a_84 HE85 HH88 a_89 HE90 a_92 HE93
            refine nrm ?_
            refine cnd_d HE95 rfl (fun hc36 => ?_) (fun hc36 => ?_)
            · refine wp_skip ?_
              refine nrm ?_
              refine wp_seq ?_
              refine wp_block ?_
              refine rg ?_
              refine pl_x HE95 HH91 (wt0 rfl) (x_move rfl) rfl rfl fun a_96 HE97 => ?_
              refine pl_x HE97 HH91 (wt0 rfl) (x_move rfl) rfl rfl fun a_98 HE99 => ?_
              refine pl_x HE99 HH91 (wt0 rfl) (x_move rfl) rfl rfl fun a_100 HE101 => ?_
              have ke37 : (k - 1) < (List.length l) := by omega
              obtain ⟨be37, fe37, rfl⟩ := el_own HH91 (i := 1) rfl ke37
              refine pl_x HE101 HH91 (wt0 rfl) (x_indexAddr ts_159 rfl rfl rfl (by omega) ke37) rfl rfl fun a_102 HE103 => ?_
              obtain ⟨y38, xy38⟩ : ∃ y_, y_ = l[(k - 1)]'(by first | exact ke37 | (simp only [List.length_set]; exact ke37) | omega | (simp only [List.length_set]; omega) | (simp; omega)) := ⟨_, rfl⟩
              have jy38 : 0 ≤ y38 ∧ y38 ≤ 255 := by rw [xy38]; exact i_ownY HH91 1 rfl _
              refine pl_x HE103 HH91 (wt0 rfl) (x_load1 tv_5 rfl (c_ownY 1 rfl (by first | exact ke37 | (simp only [List.length_set]; exact ke37) | omega | (simp only [List.length_set]; omega) | (simp; omega)) xy38.symm)) rfl rfl fun a_104 HE105 => ?_
              refine pl fun K_106 hK107 => ?_
              refine st_lit (m := 1) (cs := [.int .u8 (y38)]) (e := 5) HE105 HH91 (run_lit ts_159 HE105 (vs := [.int .u8 (y38)]) rfl rfl (by simp [Value.cells]) rfl (by decide)) (wt0 rfl) rfl rfl fun q39 a_108 w' HE109 HH110 => hK107 _ _ ?_
              refine pl fun K_111 hK112 => ?_
              refine st_app1F y38 HE109 HH110 ts_159 [1, 0, 2] (by decide) rfl (fun _ => (oY (by constructor <;> omega))) rfl rfl (by simp [Value.oneCell']) (by unfold maxLen; first | omega | (simp; done) | (simp; omega)) (by first | omega | (simp; done) | (simp; omega)) (wt0 rfl) rfl fun A40 c41 S42 a_113 w' HE114 HH115 => hK112 _ _ ?_
              refine pl_x HE114 HH115 (wt0 rfl) (x_assign rfl) rfl rfl fun a_116 HE117 => ?_
              refine wpList_nil ?_
              clear a_94 HE95 a_96 HE97 a_98 HE99 a_100 HE101 a_102 HE103 a_104 HE105 HH91 K_106 hK107 a_108 HE109 HH110 a_113 HE114 hK112 K_111
              refine blk_n ?_
              refine nrm ?_
              refine rg ?_
              refine pl_x HE117 HH115 (wt0 rfl) (x_move rfl) rfl rfl fun a_118 HE119 => ?_
              refine pl_x HE119 HH115 (wt0 rfl) (x_sub rfl rfl (by exact ⟨by omega, by omega⟩)) rfl rfl fun a_120 HE121 => ?_
              refine pl_x HE121 HH115 (wt0 rfl) (x_assign rfl) rfl rfl fun a_122 HE123 => ?_
              refine wpList_nil ?_
              clear a_116 HE117 a_118 HE119 a_120 HE121
              have E43 : (l.drop ((k - 1))).reverse = ((l.drop k).reverse ++ [y38]) := by
                rw [drop_revI (by omega) (by omega), ← xy38]
              exact nrm ⟨0 + ((k - 1)), (by omega), (k - 1), A40, c41, S42, rfl, HE123.sub ⟨(by rw [E43]; rfl), (lkI rfl (by omega)), rfl, trivial⟩, ((HH115.sel [0, 1] (by decide) rfl).to (by first | rfl | (rw [E43]; done) | (rw [E43]; rfl) | (simp only [E43]; done) | (simp only [E43]; rfl))), (by first | omega | assumption | (simp; done) | simp_all)⟩
            · refine wp_exit ?_
              refine (thn_exit (thn_exit (blk_hit ?_)))
              refine nrm ?_
              refine wp_seq ?_
              refine rg ?_
              refine pl_x HE95 HH91 (wt0 rfl) (x_move rfl) rfl rfl fun a_124 HE125 => ?_
              refine pl_x HE125 HH91 (wt0 rfl) (x_bytes (xs := (l.drop k).reverse) Tryd.underlying159 Tryd.underlying5 Tryd.underlying9 rfl (fun _ h_ => (h_.vecSl (i := 0) rfl))) rfl rfl fun a_126 HE127 => ?_
              refine pl_x HE127 HH91 (wt0 rfl) (x_assign rfl) rfl rfl fun a_128 HE129 => ?_
              refine wpList_nil ?_
              clear a_94 HE95 a_124 HE125 a_126 HE127
              refine nrm ?_
              refine wp_ret ?_
              refine ret1 HE129 rfl (rv_tmp rfl) ?_
              have hF : (Go.Lib.itoa a0) = (Go.Lib.bytesOf ((l.drop k).reverse)) := by
                first | (rw [show a0 = 0 from by omega]; simp [Go.Lib.itoa, Go.Lib.decDigits]; done) | (rw [itoa_low (by omega), ‹lowD a0.toNat = _›, show u = 0 from by omega, lowD_zero, List.append_nil, show k = 0 from by omega, List.drop_zero])
              exact ⟨by first | (rw [hF] <;> rfl) | rfl | (rw [hF]; simp only [Ending.returned.injEq, Value.slice.injEq, true_and, and_true]; first | omega | (simp; done)) | (rw [hF]; simp; omega), HH91.below⟩

set_option maxRecDepth 100000 in
set_option maxHeartbeats 4000000 in
theorem impl_decimals (A0 : Option Addr) (c0 : Nat) (a0 : (List Int)) (a1 : List UInt8) (w : World) (h0 : Sl eInt w (Old w) A0 c0 a0) (hG : Glob w) (s0 : a0.length ≤ 1000000) (s1 : a1.length ≤ 10) :
    Calls Tryd.prog 55 #[.slice A0 a0.length c0, .string (bs a1)] w fun e w' => e = .returned (.string (bs (decs a0 a1))) ∧ Below w.heap.size w w' := by
  have l0 := h0.len
  have HH1 := Held.start Nob w
  refine enter (n := 24) Tryd.func55 rfl rfl rfl fun a_2 HE3 => ?_
  refine wp_seq ?_
  refine rg ?_
  refine pl_x HE3 HH1 (wt0 rfl) (x_assign rfl) rfl rfl fun a_4 HE5 => ?_
  refine wpList_nil ?_
  clear a_2 HE3
  refine nrm ?_
  refine wp_seq ?_
  refine rg ?_
  refine pl fun K_6 hK7 => ?_
  refine st_lit (m := 0) (cs := []) (e := 9) HE5 HH1 (run_lit ts_106 HE5 (vs := []) rfl rfl (by simp [Value.cells]) rfl (by decide)) (wt0 rfl) rfl rfl fun q21 a_8 w' HE9 HH10 => hK7 _ _ ?_
  refine pl_x HE9 HH10 (wt0 rfl) (x_assign rfl) rfl rfl fun a_11 HE12 => ?_
  refine wpList_nil ?_
  clear a_4 HE5 HH1 a_8 HE9 hK7 K_6
  refine nrm ?_
  refine wp_seq ?_
  refine wp_seq ?_
  refine rg ?_
  refine pl_x HE12 HH10 (wt0 rfl) (x_move rfl) rfl rfl fun a_13 HE14 => ?_
  refine pl_x HE14 HH10 (wt0 rfl) (x_len Tryd.underlying51 rfl) rfl rfl fun a_15 HE16 => ?_
  refine pl_x HE16 HH10 (wt0 rfl) (x_move rfl) rfl rfl fun a_17 HE18 => ?_
  refine wpList_nil ?_
  clear a_11 HE12 a_13 HE14 a_15 HE16
  refine nrm ?_
  refine wp_block ?_
  have HH19 := Held.vecFlat (E := eTxt) (xs := []) (css := []) HH10 rfl (Nat.zero_le _) (fun i x hx => by simp at hx)
  refine lp (fun m a w' => ∃ (k : Nat) (A_5 : Option Addr) (c_5 : Nat) (S_5 : Nat → Prop), m = a0.length - k ∧ Env 24 [(5, .slice A_5 (List.length ((a0.take k).map Go.Lib.itoa)) c_5), (11, .int .i64 (k : Int)), (1, .string (bs a1)), (9, .slice A0 (a0.length) c0), (10, .int .i64 ((a0.length : Int)))] a ∧ Held Nob w [rVec eTxt 9 S_5 A_5 c_5 ((a0.take k).map Go.Lib.itoa)] w' ∧ (k ≤ a0.length)) (a0.length - (0)) ?_ ?_
  · have E22 : (a0.take 0).map Go.Lib.itoa = ([] : List (List UInt8)) := by
      first | rfl | simp
    exact ⟨0, (some ⟨q21, 0, none⟩), (List.length (α := (List UInt8)) []), (fun b => b = q21), rfl, HE18.sub ⟨(by rw [E22]; rfl), (lkI rfl (by first | rfl | omega | (simp []; done))), rfl, rfl, rfl, trivial⟩, ((HH19.sel [0] (by decide) rfl).to (by first | rfl | (rw [E22]; done) | (rw [E22]; rfl) | (simp only [E22]; done) | (simp only [E22]; rfl))), (by first | omega | assumption | (simp; done) | simp_all)⟩
  · rintro m a_20 w' ⟨k, A_5, c_5, S_5, rfl, HE21, HH22, p23_0⟩
    have ol : ((a0.take k).map Go.Lib.itoa).length ≤ 1000000 := by rw [List.length_map, List.length_take]; omega
    have oj := decs_take_len (Sl.i64 h0) (b := a1) (by omega) k
    refine wp_seq ?_
    refine rg ?_
    refine pl_x HE21 HH22 (wt0 rfl) (x_lss rfl rfl) rfl rfl fun a_23 HE24 => ?_
    refine wpList_nil ?_
    clear HH10 a_17 HE18 HH19 a_20 HE21
    refine nrm ?_
    refine wp_seq ?_
    refine cnd_d HE24 rfl (fun hc24 => ?_) (fun hc24 => ?_)
    · refine wp_skip ?_
      refine nrm ?_
      refine wp_seq ?_
      refine wp_block ?_
      refine wp_seq ?_
      refine rg ?_
      have ke25 : k < a0.length := by omega
      obtain ⟨be25, fe25, ese25, Ae25, Re25, De25⟩ := el_old h0 ke25
      obtain ⟨e25, xe25⟩ : ∃ x_, x_ = a0[k] := ⟨_, rfl⟩
      rw [← xe25] at Re25
      have Qe25 := Re25
      obtain ⟨rfl, ie25⟩ := Re25
      have je25 := ie25; unfold I64 at je25
      refine pl_x HE24 HH22 (wt0 rfl) (x_indexAddr ts_51 rfl rfl Ae25 rfl ke25) rfl rfl fun a_25 HE26 => ?_
      refine pl_x HE26 HH22 (wt0 rfl) (x_load1 tv_2 rfl (c_old (De25 0 _ rfl))) rfl rfl fun a_27 HE28 => ?_
      refine pl_x HE28 HH22 (wt0 rfl) (x_assign rfl) rfl rfl fun a_29 HE30 => ?_
      refine wpList_nil ?_
      clear a_23 HE24 a_25 HE26 a_27 HE28
      refine nrm ?_
      refine rg ?_
      refine pl_x HE30 HH22 (wt0 rfl) (x_move rfl) rfl rfl fun a_31 HE32 => ?_
      refine pl_x HE32 HH22 (wt0 rfl) (x_move rfl) rfl rfl fun a_33 HE34 => ?_
      refine pl fun K_35 hK36 => ?_
      refine st_call HE34 (wt0 rfl) rfl rfl rfl en_60 rfl rfl (impl_Decimal e25 _ (HH22.glob hG) (by omega)) fun e w' hr => ?_
      have hAr26_0 := itoa_len (n := e25) (by omega)
      obtain ⟨rfl, hbr26⟩ := hr
      have HH37 := HH22.on hbr26
      refine ⟨_, rfl, fun a_38 HE39 => hK36 _ _ ?_⟩
      refine pl fun K_40 hK41 => ?_
      refine st_lit (m := 1) (cs := [.string (bs (Go.Lib.itoa e25))]) (e := 9) HE39 HH37 (run_lit ts_106 HE39 (vs := [.string (bs (Go.Lib.itoa e25))]) rfl rfl (by simp [Value.cells]) rfl (by decide)) (wt0 rfl) rfl rfl fun q27 a_42 w' HE43 HH44 => hK41 _ _ ?_
      refine pl fun K_45 hK46 => ?_
      refine st_app1F (Go.Lib.itoa e25) HE43 HH44 ts_106 [1, 0] (by decide) rfl (fun _ => (oS (by first | omega | (simp only [List.length_append, List.length_cons, List.length_nil]; omega) | (simp; omega)))) rfl rfl (by simp [Value.oneCell']) (by unfold maxLen; first | omega | (simp; done) | (simp; omega)) (by first | omega | (simp; done) | (simp; omega)) (wt0 rfl) rfl fun A28 c29 S30 a_47 w' HE48 HH49 => hK46 _ _ ?_
      refine pl_x HE48 HH49 (wt0 rfl) (x_assign rfl) rfl rfl fun a_50 HE51 => ?_
      refine wpList_nil ?_
      clear a_29 HE30 a_31 HE32 HH22 a_33 HE34 K_35 hK36 a_38 HE39 HH37 K_40 hK41 a_42 HE43 HH44 a_47 HE48 hK46 K_45
      refine blk_n ?_
      refine nrm ?_
      refine rg ?_
      refine pl_x HE51 HH49 (wt0 rfl) (x_add rfl rfl (by exact ⟨by omega, by omega⟩)) rfl rfl fun a_52 HE53 => ?_
      refine pl_x HE53 HH49 (wt0 rfl) (x_move rfl) rfl rfl fun a_54 HE55 => ?_
      refine wpList_nil ?_
      clear a_50 HE51 a_52 HE53
      have E31 : (a0.take (k + 1)).map Go.Lib.itoa = ((a0.take k).map Go.Lib.itoa ++ [(Go.Lib.itoa e25)]) := by
        rw [List.take_succ_eq_append_getElem (by omega), List.map_append, ← xe25]; rfl
      exact nrm ⟨a0.length - (k + 1), (by omega), k + 1, A28, c29, S30, rfl, HE55.sub ⟨(by rw [E31]; rfl), (lkI rfl (by first | rfl | omega | (simp [p23_0, hc24, xe25]; done))), rfl, rfl, rfl, trivial⟩, ((HH49.sel [0] (by decide) rfl).to (by first | rfl | (rw [E31]; done) | (rw [E31]; rfl) | (simp only [E31]; done) | (simp only [E31]; rfl))), (by first | omega | assumption | (simp; done) | simp_all)⟩
    · refine wp_exit ?_
      refine (thn_exit (thn_exit (blk_hit ?_)))
      refine nrm ?_
      refine wp_seq ?_
      refine rg ?_
      refine pl_x HE24 HH22 (wt0 rfl) (x_move rfl) rfl rfl fun a_56 HE57 => ?_
      refine pl_x HE57 HH22 (wt0 rfl) (x_move rfl) rfl rfl fun a_58 HE59 => ?_
      refine pl fun K_60 hK61 => ?_
      refine st_call HE59 (wt0 rfl) rfl rfl rfl en_61 rfl rfl (Join_Str _ _ ((a0.take k).map Go.Lib.itoa) a1 _ (HH22.vecSl (i := 0) rfl) (by first | omega | (simp; done)) (by first | omega | (simp [Go.Lib.join, List.intercalate]; omega))) fun e w' hr => ?_
      have hAr32_0 := (by first | omega | (simp [Go.Lib.join, List.intercalate]; omega) : (Go.Lib.join ((a0.take k).map Go.Lib.itoa) a1).length ≤ 1000000000)
      obtain ⟨rfl, hbr32⟩ := hr
      have HH62 := HH22.on hbr32
      refine ⟨_, rfl, fun a_63 HE64 => hK61 _ _ ?_⟩
      refine pl_x HE64 HH62 (wt0 rfl) (x_assign rfl) rfl rfl fun a_65 HE66 => ?_
      refine wpList_nil ?_
      clear a_23 HE24 a_56 HE57 HH22 a_58 HE59 a_63 HE64 hK61 K_60
      refine nrm ?_
      refine wp_ret ?_
      refine ret1 HE66 rfl (rv_tmp rfl) ?_
      have hF : (decs a0 a1) = (Go.Lib.join ((a0.take k).map Go.Lib.itoa) a1) := by
        unfold decs; rw [List.take_of_length_le (by omega)]
      exact ⟨by first | (rw [hF] <;> rfl) | rfl | (rw [hF]; simp only [Ending.returned.injEq, Value.slice.injEq, true_and, and_true]; first | omega | (simp; done)) | (rw [hF]; simp; omega), HH62.below⟩

def lets (w : List Int) : Prop := w.length ≤ 1000 ∧ ∀ x ∈ w, 0 ≤ x ∧ x ≤ 1000

def dotT (w : List Int) : List UInt8 := if w = [] then [45] else decs w [46]

def wordsT (l : List (List Int)) : List UInt8 := Go.Lib.join (l.map dotT) [44]

def tagText (t : tTag) : List UInt8 := if validTag t = true then Go.Lib.itoa t.1 ++ [58] ++ wordsT t.2.1 ++ [58] ++ dotT t.2.2 else []

theorem dotT_len {w : List Int} (h : lets w) : (dotT w).length ≤ 30001 := by
  unfold dotT
  split
  · simp
  · have := decs_len (l := w) (b := [46]) (fun x hx => by have := h.2 x hx; omega) (by simp)
    have := h.1
    omega

theorem words_take_len {l : List (List Int)} (h : ∀ x ∈ l, lets x) (k : Nat) : (Go.Lib.join ((l.take k).map dotT) [44]).length ≤ 30002 * l.length :=
  join_take_len (fun x hx => by have := dotT_len (h x hx); simp only [List.length_cons, List.length_nil]; omega) k

theorem wordsT_len {l : List (List Int)} (h : ∀ x ∈ l, lets x) (hl : l.length ≤ 400) : (wordsT l).length ≤ 12001000 := by
  have := words_take_len h l.length
  rw [List.take_length] at this
  unfold wordsT
  omega

theorem isTagW_lets {w : List Int} {n : Int} (h : isTagW w n = true) (hn : n ≤ 1000) : lets w := by
  unfold isTagW at h
  simp only [Bool.and_eq_true, decide_eq_true_eq] at h
  exact ⟨h.1, fun x hx => by have := allW_mem h.2 x hx; omega⟩

theorem risB_room (hi : Int) : ∀ (l : List Int) (x : Int), risB (x :: l) = true → (∀ y ∈ x :: l, y ≤ hi) → x + ((l.length : Int) + 1) ≤ hi + 1
  | [], x, _, h => by have := h x (by simp); simp; omega
  | y :: l, x, hr, h => by
    rw [risB, Bool.and_eq_true, decide_eq_true_eq] at hr
    have := risB_room hi l y hr.2 fun z hz => h z (List.mem_cons_of_mem _ hz)
    rw [List.length_cons]
    omega

theorem risB_len {l : List Int} {n : Int} (hr : risB l = true) (ha : allW l 0 (n - 1) = true) (hn : n ≤ 1000) : l.length ≤ 1000 := by
  cases l with
  | nil => simp
  | cons x l =>
    have h1 := risB_room (n - 1) l x hr fun y hy => (allW_mem ha y hy).2
    have h2 := (allW_mem ha x (by simp)).1
    rw [List.length_cons]
    omega

theorem validTag_ok {t : tTag} (h : validTag t = true) : (1 ≤ t.1 ∧ t.1 ≤ 4) ∧ t.2.1.length ≤ 200 ∧ (∀ w ∈ t.2.1, lets w) ∧ lets t.2.2 := by
  unfold validTag at h
  simp only [Bool.and_eq_true, Bool.not_eq_true', List.any_eq_false] at h
  obtain ⟨⟨⟨⟨h1, h2⟩, h3⟩, h4⟩, h5⟩ := h
  have e1 := withinB_true.1 h1
  have e2 := withinB_true.1 h2
  refine ⟨e1, by omega, fun w hw => isTagW_lets (n := t.2.1.length) (by have := h3 w hw; unfold notTagW at this; simpa using this) (by omega), risB_len h4 h5 (by omega), fun x hx => by have := allW_mem h5 x hx; omega⟩

set_option maxRecDepth 100000 in
set_option maxHeartbeats 4000000 in
theorem impl_dotted (A0 : Option Addr) (c0 : Nat) (a0 : (List Int)) (w : World) (h0 : Sl eInt w (Old w) A0 c0 a0) (hG : Glob w) (s0 : lets a0) :
    Calls Tryd.prog 86 #[.slice A0 a0.length c0] w fun e w' => e = .returned (.string (bs (dotT a0))) ∧ Below w.heap.size w w' := by
  have l0 := h0.len
  have s1 := s0.1
  have s2 := s0.2
  have s3 : ∀ x ∈ a0, -9223372036854775808 ≤ x ∧ x ≤ 9223372036854775807 := fun x hx => by have := s2 x hx; omega
  have HH1 := Held.start Nob w
  refine enter (n := 8) Tryd.func86 rfl rfl rfl fun a_2 HE3 => ?_
  refine wp_seq ?_
  refine rg ?_
  refine pl_x HE3 HH1 (wt0 rfl) (x_assign rfl) rfl rfl fun a_4 HE5 => ?_
  refine wpList_nil ?_
  clear a_2 HE3
  refine nrm ?_
  refine wp_seq ?_
  refine wp_seq ?_
  refine rg ?_
  refine pl_x HE5 HH1 (wt0 rfl) (x_move rfl) rfl rfl fun a_6 HE7 => ?_
  refine pl_x HE7 HH1 (wt0 rfl) (x_len Tryd.underlying51 rfl) rfl rfl fun a_8 HE9 => ?_
  refine pl_x HE9 HH1 (wt0 rfl) (x_eql rfl rfl) rfl rfl fun a_10 HE11 => ?_
  refine wpList_nil ?_
  clear a_4 HE5 a_6 HE7 a_8 HE9
  refine nrm ?_
  refine cnd_e HE11 rfl (fun hc21 => ?_) (fun hc21 => ?_)
  · refine wp_seq ?_
    refine rg ?_
    refine pl_x HE11 HH1 (wt0 rfl) (x_assign rfl) rfl rfl fun a_12 HE13 => ?_
    refine wpList_nil ?_
    clear a_10 HE11
    refine nrm ?_
    refine wp_ret ?_
    refine (thn_ret ?_)
    refine ret1 HE13 rfl (rv_tmp rfl) ?_
    have hF : (dotT a0) = [45] := by
      unfold dotT; first | (rw [if_pos (eq_nil (by omega))]; done) | (rw [if_neg (ne_nil (by omega))]; done) | (rw [if_neg (ne_nil (by omega))]; unfold decs; rw [List.take_of_length_le (by omega)])
    exact ⟨by first | (rw [hF] <;> rfl) | rfl | (rw [hF]; simp only [Ending.returned.injEq, Value.slice.injEq, true_and, and_true]; first | omega | (simp; done)) | (rw [hF]; simp; omega), HH1.below⟩
  · refine wp_skip ?_
    refine nrm ?_
    refine wp_seq ?_
    refine rg ?_
    refine pl_x HE11 HH1 (wt0 rfl) (x_move rfl) rfl rfl fun a_14 HE15 => ?_
    refine pl fun K_16 hK17 => ?_
    refine st_call HE15 (wt0 rfl) rfl rfl rfl en_55 rfl rfl (impl_decimals _ _ a0 ([46]) _ (HH1.old h0) (HH1.glob hG) (by first | omega | (simp; done) | (simp; omega)) (by first | omega | (simp; done))) fun e w' hr => ?_
    have hAr22_0 := decs_len (l := a0) (b := ([46])) (by first | assumption | exact Sl.i64 (by assumption) | (intro x hx; simp at hx; omega)) (by simp)
    obtain ⟨rfl, hbr22⟩ := hr
    have HH18 := HH1.on hbr22
    refine ⟨_, rfl, fun a_19 HE20 => hK17 _ _ ?_⟩
    refine pl_x HE20 HH18 (wt0 rfl) (x_assign rfl) rfl rfl fun a_21 HE22 => ?_
    refine wpList_nil ?_
    clear a_10 HE11 HH1 a_14 HE15 a_19 HE20 hK17 K_16
    refine nrm ?_
    refine wp_ret ?_
    refine ret1 HE22 rfl (rv_tmp rfl) ?_
    have hF : (dotT a0) = (decs a0 ([46])) := by
      unfold dotT; first | (rw [if_pos (eq_nil (by omega))]; done) | (rw [if_neg (ne_nil (by omega))]; done) | (rw [if_neg (ne_nil (by omega))]; unfold decs; rw [List.take_of_length_le (by omega)])
    exact ⟨by first | (rw [hF] <;> rfl) | rfl | (rw [hF]; simp only [Ending.returned.injEq, Value.slice.injEq, true_and, and_true]; first | omega | (simp; done)) | (rw [hF]; simp; omega), HH18.below⟩

set_option maxRecDepth 100000 in
set_option maxHeartbeats 4000000 in
theorem impl_wordsText (A0 : Option Addr) (c0 : Nat) (a0 : (List (List Int))) (w : World) (h0 : Sl (eSl eInt) w (Old w) A0 c0 a0) (hG : Glob w) (s0 : a0.length ≤ 400) (s1 : ∀ w ∈ a0, lets w) :
    Calls Tryd.prog 74 #[.slice A0 a0.length c0] w fun e w' => e = .returned (.string (bs (wordsT a0))) ∧ Below w.heap.size w w' := by
  have l0 := h0.len
  have HH1 := Held.start Nob w
  refine enter (n := 21) Tryd.func74 rfl rfl rfl fun a_2 HE3 => ?_
  refine wp_seq ?_
  refine rg ?_
  refine pl_x HE3 HH1 (wt0 rfl) (x_assign rfl) rfl rfl fun a_4 HE5 => ?_
  refine wpList_nil ?_
  clear a_2 HE3
  refine nrm ?_
  refine wp_seq ?_
  refine rg ?_
  refine pl fun K_6 hK7 => ?_
  refine st_lit (m := 0) (cs := []) (e := 9) HE5 HH1 (run_lit ts_106 HE5 (vs := []) rfl rfl (by simp [Value.cells]) rfl (by decide)) (wt0 rfl) rfl rfl fun q21 a_8 w' HE9 HH10 => hK7 _ _ ?_
  refine pl_x HE9 HH10 (wt0 rfl) (x_assign rfl) rfl rfl fun a_11 HE12 => ?_
  refine wpList_nil ?_
  clear a_4 HE5 HH1 a_8 HE9 hK7 K_6
  refine nrm ?_
  refine wp_seq ?_
  refine wp_seq ?_
  refine rg ?_
  refine pl_x HE12 HH10 (wt0 rfl) (x_move rfl) rfl rfl fun a_13 HE14 => ?_
  refine pl_x HE14 HH10 (wt0 rfl) (x_len Tryd.underlying42 rfl) rfl rfl fun a_15 HE16 => ?_
  refine pl_x HE16 HH10 (wt0 rfl) (x_move rfl) rfl rfl fun a_17 HE18 => ?_
  refine wpList_nil ?_
  clear a_11 HE12 a_13 HE14 a_15 HE16
  refine nrm ?_
  refine wp_block ?_
  have HH19 := Held.vecFlat (E := eTxt) (xs := []) (css := []) HH10 rfl (Nat.zero_le _) (fun i x hx => by simp at hx)
  refine lp (fun m a w' => ∃ (k : Nat) (A_3 : Option Addr) (c_3 : Nat) (S_3 : Nat → Prop), m = a0.length - k ∧ Env 21 [(3, .slice A_3 (List.length ((a0.take k).map dotT)) c_3), (9, .int .i64 (k : Int)), (7, .slice A0 (a0.length) c0), (8, .int .i64 ((a0.length : Int)))] a ∧ Held Nob w [rVec eTxt 9 S_3 A_3 c_3 ((a0.take k).map dotT)] w' ∧ (k ≤ a0.length)) (a0.length - (0)) ?_ ?_
  · have E22 : (a0.take 0).map dotT = ([] : List (List UInt8)) := by
      first | rfl | simp
    exact ⟨0, (some ⟨q21, 0, none⟩), (List.length (α := (List UInt8)) []), (fun b => b = q21), rfl, HE18.sub ⟨(by rw [E22]; rfl), (lkI rfl (by first | rfl | omega | (simp []; done))), rfl, rfl, trivial⟩, ((HH19.sel [0] (by decide) rfl).to (by first | rfl | (rw [E22]; done) | (rw [E22]; rfl) | (simp only [E22]; done) | (simp only [E22]; rfl))), (by first | omega | assumption | (simp; done) | simp_all)⟩
  · rintro m a_20 w' ⟨k, A_3, c_3, S_3, rfl, HE21, HH22, p23_0⟩
    have ol : ((a0.take k).map dotT).length ≤ 400 := by rw [List.length_map, List.length_take]; omega
    have oj := words_take_len s1 k
    refine wp_seq ?_
    refine rg ?_
    refine pl_x HE21 HH22 (wt0 rfl) (x_lss rfl rfl) rfl rfl fun a_23 HE24 => ?_
    refine wpList_nil ?_
    clear HH10 a_17 HE18 HH19 a_20 HE21
    refine nrm ?_
    refine wp_seq ?_
    refine cnd_d HE24 rfl (fun hc24 => ?_) (fun hc24 => ?_)
    · refine wp_skip ?_
      refine nrm ?_
      refine wp_seq ?_
      refine wp_block ?_
      refine wp_seq ?_
      refine rg ?_
      have ke25 : k < a0.length := by omega
      obtain ⟨be25, fe25, ese25, Ae25, Re25, De25⟩ := el_old h0 ke25
      obtain ⟨e25, xe25⟩ : ∃ x_, x_ = a0[k] := ⟨_, rfl⟩
      rw [← xe25] at Re25
      have Qe25 := Re25
      obtain ⟨Ae25_0, ce25_0, rfl, ge25_0⟩ := Re25
      have le25_0 := ge25_0.len
      have fe25 := s1 e25 (by rw [xe25]; exact List.getElem_mem _)
      refine pl_x HE24 HH22 (wt0 rfl) (x_indexAddr ts_42 rfl rfl Ae25 rfl ke25) rfl rfl fun a_25 HE26 => ?_
      refine pl_x HE26 HH22 (wt0 rfl) (x_load1 tv_51 rfl (c_old (De25 0 _ rfl))) rfl rfl fun a_27 HE28 => ?_
      refine pl_x HE28 HH22 (wt0 rfl) (x_assign rfl) rfl rfl fun a_29 HE30 => ?_
      refine wpList_nil ?_
      clear a_23 HE24 a_25 HE26 a_27 HE28
      refine nrm ?_
      refine rg ?_
      refine pl_x HE30 HH22 (wt0 rfl) (x_move rfl) rfl rfl fun a_31 HE32 => ?_
      refine pl_x HE32 HH22 (wt0 rfl) (x_move rfl) rfl rfl fun a_33 HE34 => ?_
      refine pl fun K_35 hK36 => ?_
      refine st_call HE34 (wt0 rfl) rfl rfl rfl en_86 rfl rfl (impl_dotted _ _ e25 _ (HH22.old ge25_0) (HH22.glob hG) (by assumption)) fun e w' hr => ?_
      have hAr26_0 := dotT_len (w := e25) (by assumption)
      obtain ⟨rfl, hbr26⟩ := hr
      have HH37 := HH22.on hbr26
      refine ⟨_, rfl, fun a_38 HE39 => hK36 _ _ ?_⟩
      refine pl fun K_40 hK41 => ?_
      refine st_lit (m := 1) (cs := [.string (bs (dotT e25))]) (e := 9) HE39 HH37 (run_lit ts_106 HE39 (vs := [.string (bs (dotT e25))]) rfl rfl (by simp [Value.cells]) rfl (by decide)) (wt0 rfl) rfl rfl fun q27 a_42 w' HE43 HH44 => hK41 _ _ ?_
      refine pl fun K_45 hK46 => ?_
      refine st_app1F (dotT e25) HE43 HH44 ts_106 [1, 0] (by decide) rfl (fun _ => (oS (by first | omega | (simp only [List.length_append, List.length_cons, List.length_nil]; omega) | (simp; omega)))) rfl rfl (by simp [Value.oneCell']) (by unfold maxLen; first | omega | (simp; done) | (simp; omega)) (by first | omega | (simp; done) | (simp; omega)) (wt0 rfl) rfl fun A28 c29 S30 a_47 w' HE48 HH49 => hK46 _ _ ?_
      refine pl_x HE48 HH49 (wt0 rfl) (x_assign rfl) rfl rfl fun a_50 HE51 => ?_
      refine wpList_nil ?_
      clear a_29 HE30 a_31 HE32 HH22 a_33 HE34 K_35 hK36 a_38 HE39 HH37 K_40 hK41 a_42 HE43 HH44 a_47 HE48 hK46 K_45
      refine blk_n ?_
      refine nrm ?_
      refine rg ?_
      refine pl_x HE51 HH49 (wt0 rfl) (x_add rfl rfl (by exact ⟨by omega, by omega⟩)) rfl rfl fun a_52 HE53 => ?_
      refine pl_x HE53 HH49 (wt0 rfl) (x_move rfl) rfl rfl fun a_54 HE55 => ?_
      refine wpList_nil ?_
      clear a_50 HE51 a_52 HE53
      have E31 : (a0.take (k + 1)).map dotT = ((a0.take k).map dotT ++ [(dotT e25)]) := by
        first | (rw [List.take_succ_eq_append_getElem (by omega), List.map_append, ← xe25]; rfl) | (rw [List.take_succ_eq_append_getElem (by omega), List.map_append, ← xe25]; simp [dotT, hc24])
      exact nrm ⟨a0.length - (k + 1), (by omega), k + 1, A28, c29, S30, rfl, HE55.sub ⟨(by rw [E31]; rfl), (lkI rfl (by first | rfl | omega | (simp [p23_0, hc24, xe25]; done))), rfl, rfl, trivial⟩, ((HH49.sel [0] (by decide) rfl).to (by first | rfl | (rw [E31]; done) | (rw [E31]; rfl) | (simp only [E31]; done) | (simp only [E31]; rfl))), (by first | omega | assumption | (simp; done) | simp_all)⟩
    · refine wp_exit ?_
      refine (thn_exit (thn_exit (blk_hit ?_)))
      refine nrm ?_
      refine wp_seq ?_
      refine rg ?_
      refine pl_x HE24 HH22 (wt0 rfl) (x_move rfl) rfl rfl fun a_56 HE57 => ?_
      refine pl fun K_58 hK59 => ?_
      refine st_call HE57 (wt0 rfl) rfl rfl rfl en_61 rfl rfl (Join_Str _ _ ((a0.take k).map dotT) ([44]) _ (HH22.vecSl (i := 0) rfl) (by first | omega | (simp; done)) (by first | omega | (simp [Go.Lib.join, List.intercalate]; omega))) fun e w' hr => ?_
      have hAr32_0 := (by first | omega | (simp [Go.Lib.join, List.intercalate]; omega) : (Go.Lib.join ((a0.take k).map dotT) ([44])).length ≤ 1000000000)
      obtain ⟨rfl, hbr32⟩ := hr
      have HH60 := HH22.on hbr32
      refine ⟨_, rfl, fun a_61 HE62 => hK59 _ _ ?_⟩
      refine pl_x HE62 HH60 (wt0 rfl) (x_assign rfl) rfl rfl fun a_63 HE64 => ?_
      refine wpList_nil ?_
      clear a_23 HE24 HH22 a_56 HE57 a_61 HE62 hK59 K_58
      refine nrm ?_
      refine wp_ret ?_
      refine ret1 HE64 rfl (rv_tmp rfl) ?_
      have hF : (wordsT a0) = (Go.Lib.join ((a0.take k).map dotT) ([44])) := by
        unfold wordsT; rw [List.take_of_length_le (by omega)]
      exact ⟨by first | (rw [hF] <;> rfl) | rfl | (rw [hF]; simp only [Ending.returned.injEq, Value.slice.injEq, true_and, and_true]; first | omega | (simp; done)) | (rw [hF]; simp; omega), HH60.below⟩

set_option maxRecDepth 100000 in
set_option maxHeartbeats 4000000 in
theorem spec_l09Letters (A0 : Option Addr) (c0 : Nat) (a0 : (List Int)) (w : World) (h0 : Sl eInt w (Old w) A0 c0 a0) (s0 : lets a0) :
    Calls Tryd.prog 118 #[.slice A0 a0.length c0] w fun e w' => e = .returned (.string (bs (dotT a0))) ∧ Below w.heap.size w w' := by
  have l0 := h0.len
  have s1 := s0.1
  have s2 := s0.2
  have s3 : ∀ x ∈ a0, -9223372036854775808 ≤ x ∧ x ≤ 9223372036854775807 := fun x hx => by have := s2 x hx; omega
  have HH1 := Held.start Nob w
  refine enter (n := 26) Tryd.func118 rfl rfl rfl fun a_2 HE3 => ?_
  refine wp_seq ?_
  refine rg ?_
  refine pl_x HE3 HH1 (wt0 rfl) (x_assign rfl) rfl rfl fun a_4 HE5 => ?_
  refine wpList_nil ?_
  clear a_2 HE3
  refine nrm ?_
  refine wp_seq ?_
  refine wp_seq ?_
  refine rg ?_
  refine pl_x HE5 HH1 (wt0 rfl) (x_move rfl) rfl rfl fun a_6 HE7 => ?_
  refine pl_x HE7 HH1 (wt0 rfl) (x_len Tryd.underlying51 rfl) rfl rfl fun a_8 HE9 => ?_
  refine pl_x HE9 HH1 (wt0 rfl) (x_eql rfl rfl) rfl rfl fun a_10 HE11 => ?_
  refine wpList_nil ?_
  clear a_4 HE5 a_6 HE7 a_8 HE9
  refine nrm ?_
  refine cnd_e HE11 rfl (fun hc21 => ?_) (fun hc21 => ?_)
  · refine wp_seq ?_
    refine rg ?_
    refine pl_x HE11 HH1 (wt0 rfl) (x_assign rfl) rfl rfl fun a_12 HE13 => ?_
    refine wpList_nil ?_
    clear a_10 HE11
    refine nrm ?_
    refine wp_ret ?_
    refine (thn_ret ?_)
    refine ret1 HE13 rfl (rv_tmp rfl) ?_
    have hF : (dotT a0) = [45] := by
      unfold dotT; first | (rw [if_pos (eq_nil (by omega))]; done) | (rw [if_neg (ne_nil (by omega))]; done) | (rw [if_neg (ne_nil (by omega))]; unfold decs; rw [List.take_of_length_le (by omega)])
    exact ⟨by first | (rw [hF] <;> rfl) | rfl | (rw [hF]; simp only [Ending.returned.injEq, Value.slice.injEq, true_and, and_true]; first | omega | (simp; done)) | (rw [hF]; simp; omega), HH1.below⟩
  · refine wp_skip ?_
    refine nrm ?_
    refine wp_seq ?_
    refine rg ?_
    refine pl_x HE11 HH1 (wt0 rfl) (x_assign rfl) rfl rfl fun a_14 HE15 => ?_
    refine wpList_nil ?_
    clear a_10 HE11
    refine nrm ?_
    refine wp_seq ?_
    refine wp_seq ?_
    refine rg ?_
    refine pl_x HE15 HH1 (wt0 rfl) (x_assign rfl) rfl rfl fun a_16 HE17 => ?_
    refine wpList_nil ?_
    clear a_14 HE15
    refine nrm ?_
    refine wp_block ?_
    refine lp (fun m a w' => ∃ (k : Nat), m = a0.length - k ∧ Env 26 [(3, .string (bs (Go.Lib.join ((a0.take k).map Go.Lib.itoa) [46]))), (4, .int .i64 (k : Int)), (0, .slice A0 (a0.length) c0)] a ∧ Held Nob w [] w' ∧ (k ≤ a0.length)) (a0.length - (0)) ?_ ?_
    · exact ⟨0, rfl, HE17.sub ⟨(lkS rfl (by first | rfl | (simp [hc21]; done))), (lkI rfl (by first | rfl | omega | (simp [hc21]; done))), rfl, trivial⟩, (HH1.sel [] (by decide) rfl), (by first | omega | assumption | (simp; done) | simp_all)⟩
    · rintro m a_18 w' ⟨k, rfl, HE19, HH20, p22_0⟩
      have oj := decs_take_len (l := a0) (b := [46]) s3 (by simp) k
      refine wp_seq ?_
      refine wp_seq ?_
      refine rg ?_
      refine pl_x HE19 HH20 (wt0 rfl) (x_move rfl) rfl rfl fun a_21 HE22 => ?_
      refine pl_x HE22 HH20 (wt0 rfl) (x_move rfl) rfl rfl fun a_23 HE24 => ?_
      refine pl_x HE24 HH20 (wt0 rfl) (x_len Tryd.underlying51 rfl) rfl rfl fun a_25 HE26 => ?_
      refine pl_x HE26 HH20 (wt0 rfl) (x_lss rfl rfl) rfl rfl fun a_27 HE28 => ?_
      refine wpList_nil ?_
      clear a_16 HE17 HH1 a_18 HE19 a_21 HE22 a_23 HE24 a_25 HE26
      refine nrm ?_
      refine cnd_d HE28 rfl (fun hc23 => ?_) (fun hc23 => ?_)
      · refine wp_skip ?_
        refine nrm ?_
        refine wp_seq ?_
        refine wp_block ?_
        refine wp_seq ?_
        refine wp_seq ?_
        refine rg ?_
        refine pl_x HE28 HH20 (wt0 rfl) (x_move rfl) rfl rfl fun a_29 HE30 => ?_
        refine pl_x HE30 HH20 (wt0 rfl) (x_gtr rfl rfl) rfl rfl fun a_31 HE32 => ?_
        refine wpList_nil ?_
        clear a_27 HE28 a_29 HE30
        refine nrm ?_
        refine cnd_d HE32 rfl (fun hc24 => ?_) (fun hc24 => ?_)
        · refine rg ?_
          refine pl_x HE32 HH20 (wt0 rfl) (x_move rfl) rfl rfl fun a_33 HE34 => ?_
          refine pl_x HE34 HH20 (wt0 rfl) (x_sadd rfl rfl (by first | omega | (simp only [List.length_append, List.length_cons, List.length_nil]; omega) | (simp; omega))) rfl rfl fun a_35 HE36 => ?_
          refine pl_x HE36 HH20 (wt0 rfl) (x_assign rfl) rfl rfl fun a_37 HE38 => ?_
          refine wpList_nil ?_
          clear a_31 HE32 a_33 HE34 a_35 HE36
          refine nrm ?_
          refine rg ?_
          refine pl_x HE38 HH20 (wt0 rfl) (x_move rfl) rfl rfl fun a_39 HE40 => ?_
          refine pl_x HE40 HH20 (wt0 rfl) (x_move rfl) rfl rfl fun a_41 HE42 => ?_
          refine pl_x HE42 HH20 (wt0 rfl) (x_move rfl) rfl rfl fun a_43 HE44 => ?_
          have ke25 : k < a0.length := by omega
          obtain ⟨be25, fe25, ese25, Ae25, Re25, De25⟩ := el_old h0 ke25
          obtain ⟨e25, xe25⟩ : ∃ x_, x_ = a0[k] := ⟨_, rfl⟩
          rw [← xe25] at Re25
          have Qe25 := Re25
          obtain ⟨rfl, ie25⟩ := Re25
          have je25 := ie25; unfold I64 at je25
          have fe25 := s2 e25 (by rw [xe25]; exact List.getElem_mem _)
          refine pl_x HE44 HH20 (wt0 rfl) (x_indexAddr ts_51 rfl rfl Ae25 rfl ke25) rfl rfl fun a_45 HE46 => ?_
          refine pl_x HE46 HH20 (wt0 rfl) (x_load1 tv_2 rfl (c_old (De25 0 _ rfl))) rfl rfl fun a_47 HE48 => ?_
          refine pl fun K_49 hK50 => ?_
          refine st_call HE48 (wt0 rfl) rfl rfl rfl en_103 rfl rfl (spec_l01Dec e25 _ (by omega)) fun e w' hr => ?_
          have hAr26_0 := itoa_len (n := e25) (by omega)
          obtain ⟨rfl, hbr26⟩ := hr
          have HH51 := HH20.on hbr26
          refine ⟨_, rfl, fun a_52 HE53 => hK50 _ _ ?_⟩
          refine pl_x HE53 HH51 (wt0 rfl) (x_sadd rfl rfl (by first | omega | (simp only [List.length_append, List.length_cons, List.length_nil]; omega) | (simp; omega))) rfl rfl fun a_54 HE55 => ?_
          refine pl_x HE55 HH51 (wt0 rfl) (x_assign rfl) rfl rfl fun a_56 HE57 => ?_
          refine wpList_nil ?_
          clear a_37 HE38 a_39 HE40 a_41 HE42 a_43 HE44 a_45 HE46 HH20 a_47 HE48 a_52 HE53 a_54 HE55 hK50 K_49
          refine blk_n ?_
          refine nrm ?_
          refine rg ?_
          refine pl_x HE57 HH51 (wt0 rfl) (x_move rfl) rfl rfl fun a_58 HE59 => ?_
          refine pl_x HE59 HH51 (wt0 rfl) (x_add rfl rfl (by exact ⟨by omega, by omega⟩)) rfl rfl fun a_60 HE61 => ?_
          refine pl_x HE61 HH51 (wt0 rfl) (x_assign rfl) rfl rfl fun a_62 HE63 => ?_
          refine wpList_nil ?_
          clear a_56 HE57 a_58 HE59 a_60 HE61
          exact nrm ⟨a0.length - (k + 1), (by omega), k + 1, rfl, HE63.sub ⟨(lkS rfl (by first | (rw [join_step0 _ _ (by omega) (by omega), ← xe25]; done) | (rw [join_step1 _ _ (by omega) (by omega), ← xe25]; done) | (rw [join_step0 _ _ (by omega) (by omega), ← xe25]; rfl) | (rw [join_step1 _ _ (by omega) (by omega), ← xe25]; rfl) | (rw [join_step0 _ _ (by omega) (by omega), ← xe25]; simp [Go.Lib.itoa, hc24]; done) | (rw [join_step1 _ _ (by omega) (by omega), ← xe25]; simp [Go.Lib.itoa, hc24]; done))), (lkI rfl (by first | rfl | omega | (simp [hc21, p22_0, hc23, hc24, xe25]; done))), rfl, trivial⟩, (HH51.sel [] (by decide) rfl), (by first | omega | assumption | (simp; done) | simp_all)⟩
        · refine wp_skip ?_
          refine nrm ?_
          refine rg ?_
          refine pl_x HE32 HH20 (wt0 rfl) (x_move rfl) rfl rfl fun a_64 HE65 => ?_
          refine pl_x HE65 HH20 (wt0 rfl) (x_move rfl) rfl rfl fun a_66 HE67 => ?_
          refine pl_x HE67 HH20 (wt0 rfl) (x_move rfl) rfl rfl fun a_68 HE69 => ?_
          have ke27 : k < a0.length := by omega
          obtain ⟨be27, fe27, ese27, Ae27, Re27, De27⟩ := el_old h0 ke27
          obtain ⟨e27, xe27⟩ : ∃ x_, x_ = a0[k] := ⟨_, rfl⟩
          rw [← xe27] at Re27
          have Qe27 := Re27
          obtain ⟨rfl, ie27⟩ := Re27
          have je27 := ie27; unfold I64 at je27
          have fe27 := s2 e27 (by rw [xe27]; exact List.getElem_mem _)
          refine pl_x HE69 HH20 (wt0 rfl) (x_indexAddr ts_51 rfl rfl Ae27 rfl ke27) rfl rfl fun a_70 HE71 => ?_
          refine pl_x HE71 HH20 (wt0 rfl) (x_load1 tv_2 rfl (c_old (De27 0 _ rfl))) rfl rfl fun a_72 HE73 => ?_
          refine pl fun K_74 hK75 => ?_
          refine st_call HE73 (wt0 rfl) rfl rfl rfl en_103 rfl rfl (spec_l01Dec e27 _ (by omega)) fun e w' hr => ?_
          have hAr28_0 := itoa_len (n := e27) (by omega)
          obtain ⟨rfl, hbr28⟩ := hr
          have HH76 := HH20.on hbr28
          refine ⟨_, rfl, fun a_77 HE78 => hK75 _ _ ?_⟩
          refine pl_x HE78 HH76 (wt0 rfl) (x_sadd rfl rfl (by first | omega | (simp only [List.length_append, List.length_cons, List.length_nil]; omega) | (simp; omega))) rfl rfl fun a_79 HE80 => ?_
          refine pl_x HE80 HH76 (wt0 rfl) (x_assign rfl) rfl rfl fun a_81 HE82 => ?_
          refine wpList_nil ?_
          clear a_31 HE32 a_64 HE65 a_66 HE67 a_68 HE69 a_70 HE71 HH20 a_72 HE73 a_77 HE78 a_79 HE80 hK75 K_74
          refine blk_n ?_
          refine nrm ?_
          refine rg ?_
          refine pl_x HE82 HH76 (wt0 rfl) (x_move rfl) rfl rfl fun a_83 HE84 => ?_
          refine pl_x HE84 HH76 (wt0 rfl) (x_add rfl rfl (by exact ⟨by omega, by omega⟩)) rfl rfl fun a_85 HE86 => ?_
          refine pl_x HE86 HH76 (wt0 rfl) (x_assign rfl) rfl rfl fun a_87 HE88 => ?_
          refine wpList_nil ?_
          clear a_81 HE82 a_83 HE84 a_85 HE86
          exact nrm ⟨a0.length - (k + 1), (by omega), k + 1, rfl, HE88.sub ⟨(lkS rfl (by first | (rw [join_step0 _ _ (by omega) (by omega), ← xe27]; done) | (rw [join_step1 _ _ (by omega) (by omega), ← xe27]; done) | (rw [join_step0 _ _ (by omega) (by omega), ← xe27]; rfl) | (rw [join_step1 _ _ (by omega) (by omega), ← xe27]; rfl) | (rw [join_step0 _ _ (by omega) (by omega), ← xe27]; simp [Go.Lib.itoa, hc24]; done) | (rw [join_step1 _ _ (by omega) (by omega), ← xe27]; simp [Go.Lib.itoa, hc24]; done))), (lkI rfl (by first | rfl | omega | (simp [hc21, p22_0, hc23, hc24, xe27]; done))), rfl, trivial⟩, (HH76.sel [] (by decide) rfl), (by first | omega | assumption | (simp; done) | simp_all)⟩
      · refine wp_exit ?_
        refine (thn_exit (thn_exit (blk_hit ?_)))
        refine nrm ?_
        refine wp_seq ?_
        refine rg ?_
        refine pl_x HE28 HH20 (wt0 rfl) (x_move rfl) rfl rfl fun a_89 HE90 => ?_
        refine pl_x HE90 HH20 (wt0 rfl) (x_assign rfl) rfl rfl fun a_91 HE92 => ?_
        refine wpList_nil ?_
        clear a_27 HE28 a_89 HE90
        refine nrm ?_
        refine wp_ret ?_
        refine ret1 HE92 rfl (rv_tmp rfl) ?_
        have hF : (dotT a0) = (Go.Lib.join ((a0.take k).map Go.Lib.itoa) [46]) := by
          unfold dotT; first | (rw [if_pos (eq_nil (by omega))]; done) | (rw [if_neg (ne_nil (by omega))]; done) | (rw [if_neg (ne_nil (by omega))]; unfold decs; rw [List.take_of_length_le (by omega)])
        exact ⟨by first | (rw [hF] <;> rfl) | rfl | (rw [hF]; simp only [Ending.returned.injEq, Value.slice.injEq, true_and, and_true]; first | omega | (simp; done)) | (rw [hF]; simp; omega), HH20.below⟩

set_option maxRecDepth 100000 in
set_option maxHeartbeats 4000000 in
theorem spec_l09Words (A0 : Option Addr) (c0 : Nat) (a0 : (List (List Int))) (w : World) (h0 : Sl (eSl eInt) w (Old w) A0 c0 a0) (s0 : a0.length ≤ 400) (s1 : ∀ w ∈ a0, lets w) :
    Calls Tryd.prog 71 #[.slice A0 a0.length c0] w fun e w' => e = .returned (.string (bs (wordsT a0))) ∧ Below w.heap.size w w' := by
  have l0 := h0.len
  have HH1 := Held.start Nob w
  refine enter (n := 23) Tryd.func71 rfl rfl rfl fun a_2 HE3 => ?_
  refine wp_seq ?_
  refine rg ?_
  refine pl_x HE3 HH1 (wt0 rfl) (x_assign rfl) rfl rfl fun a_4 HE5 => ?_
  refine wpList_nil ?_
  clear a_2 HE3
  refine nrm ?_
  refine wp_seq ?_
  refine rg ?_
  refine pl_x HE5 HH1 (wt0 rfl) (x_assign rfl) rfl rfl fun a_6 HE7 => ?_
  refine wpList_nil ?_
  clear a_4 HE5
  refine nrm ?_
  refine wp_seq ?_
  refine wp_seq ?_
  refine rg ?_
  refine pl_x HE7 HH1 (wt0 rfl) (x_assign rfl) rfl rfl fun a_8 HE9 => ?_
  refine wpList_nil ?_
  clear a_6 HE7
  refine nrm ?_
  refine wp_block ?_
  refine lp (fun m a w' => ∃ (k : Nat), m = a0.length - k ∧ Env 23 [(3, .string (bs (Go.Lib.join ((a0.take k).map dotT) [44]))), (4, .int .i64 (k : Int)), (0, .slice A0 (a0.length) c0)] a ∧ Held Nob w [] w' ∧ (k ≤ a0.length)) (a0.length - (0)) ?_ ?_
  · exact ⟨0, rfl, HE9.sub ⟨(lkS rfl (by first | rfl | (simp []; done))), (lkI rfl (by first | rfl | omega | (simp []; done))), rfl, trivial⟩, (HH1.sel [] (by decide) rfl), (by first | omega | assumption | (simp; done) | simp_all)⟩
  · rintro m a_10 w' ⟨k, rfl, HE11, HH12, p21_0⟩
    have oj := words_take_len s1 k
    refine wp_seq ?_
    refine wp_seq ?_
    refine rg ?_
    refine pl_x HE11 HH12 (wt0 rfl) (x_move rfl) rfl rfl fun a_13 HE14 => ?_
    refine pl_x HE14 HH12 (wt0 rfl) (x_move rfl) rfl rfl fun a_15 HE16 => ?_
    refine pl_x HE16 HH12 (wt0 rfl) (x_len Tryd.underlying42 rfl) rfl rfl fun a_17 HE18 => ?_
    refine pl_x HE18 HH12 (wt0 rfl) (x_lss rfl rfl) rfl rfl fun a_19 HE20 => ?_
    refine wpList_nil ?_
    clear a_8 HE9 HH1 a_10 HE11 a_13 HE14 a_15 HE16 a_17 HE18
    refine nrm ?_
    refine cnd_d HE20 rfl (fun hc22 => ?_) (fun hc22 => ?_)
    · refine wp_skip ?_
      refine nrm ?_
      refine wp_seq ?_
      refine wp_block ?_
      refine wp_seq ?_
      refine wp_seq ?_
      refine rg ?_
      refine pl_x HE20 HH12 (wt0 rfl) (x_move rfl) rfl rfl fun a_21 HE22 => ?_
      refine pl_x HE22 HH12 (wt0 rfl) (x_gtr rfl rfl) rfl rfl fun a_23 HE24 => ?_
      refine wpList_nil ?_
      clear a_19 HE20 a_21 HE22
      refine nrm ?_
      refine cnd_d HE24 rfl (fun hc23 => ?_) (fun hc23 => ?_)
      · refine rg ?_
        refine pl_x HE24 HH12 (wt0 rfl) (x_move rfl) rfl rfl fun a_25 HE26 => ?_
        refine pl_x HE26 HH12 (wt0 rfl) (x_sadd rfl rfl (by first | omega | (simp only [List.length_append, List.length_cons, List.length_nil]; omega) | (simp; omega))) rfl rfl fun a_27 HE28 => ?_
        refine pl_x HE28 HH12 (wt0 rfl) (x_assign rfl) rfl rfl fun a_29 HE30 => ?_
        refine wpList_nil ?_
        clear a_23 HE24 a_25 HE26 a_27 HE28
        refine nrm ?_
        refine rg ?_
        refine pl_x HE30 HH12 (wt0 rfl) (x_move rfl) rfl rfl fun a_31 HE32 => ?_
        refine pl_x HE32 HH12 (wt0 rfl) (x_move rfl) rfl rfl fun a_33 HE34 => ?_
        refine pl_x HE34 HH12 (wt0 rfl) (x_move rfl) rfl rfl fun a_35 HE36 => ?_
        have ke24 : k < a0.length := by omega
        obtain ⟨be24, fe24, ese24, Ae24, Re24, De24⟩ := el_old h0 ke24
        obtain ⟨e24, xe24⟩ : ∃ x_, x_ = a0[k] := ⟨_, rfl⟩
        rw [← xe24] at Re24
        have Qe24 := Re24
        obtain ⟨Ae24_0, ce24_0, rfl, ge24_0⟩ := Re24
        have le24_0 := ge24_0.len
        have fe24 := s1 e24 (by rw [xe24]; exact List.getElem_mem _)
        refine pl_x HE36 HH12 (wt0 rfl) (x_indexAddr ts_42 rfl rfl Ae24 rfl ke24) rfl rfl fun a_37 HE38 => ?_
        refine pl_x HE38 HH12 (wt0 rfl) (x_load1 tv_51 rfl (c_old (De24 0 _ rfl))) rfl rfl fun a_39 HE40 => ?_
        refine pl fun K_41 hK42 => ?_
        refine st_call HE40 (wt0 rfl) rfl rfl rfl en_118 rfl rfl (spec_l09Letters _ _ e24 _ (HH12.old ge24_0) (by assumption)) fun e w' hr => ?_
        have hAr25_0 := dotT_len (w := e24) (by assumption)
        obtain ⟨rfl, hbr25⟩ := hr
        have HH43 := HH12.on hbr25
        refine ⟨_, rfl, fun a_44 HE45 => hK42 _ _ ?_⟩
        refine pl_x HE45 HH43 (wt0 rfl) (x_sadd rfl rfl (by first | omega | (simp only [List.length_append, List.length_cons, List.length_nil]; omega) | (simp; omega))) rfl rfl fun a_46 HE47 => ?_
        refine pl_x HE47 HH43 (wt0 rfl) (x_assign rfl) rfl rfl fun a_48 HE49 => ?_
        refine wpList_nil ?_
        clear a_29 HE30 a_31 HE32 a_33 HE34 a_35 HE36 a_37 HE38 HH12 a_39 HE40 a_44 HE45 a_46 HE47 hK42 K_41
        refine blk_n ?_
        refine nrm ?_
        refine rg ?_
        refine pl_x HE49 HH43 (wt0 rfl) (x_move rfl) rfl rfl fun a_50 HE51 => ?_
        refine pl_x HE51 HH43 (wt0 rfl) (x_add rfl rfl (by exact ⟨by omega, by omega⟩)) rfl rfl fun a_52 HE53 => ?_
        refine pl_x HE53 HH43 (wt0 rfl) (x_assign rfl) rfl rfl fun a_54 HE55 => ?_
        refine wpList_nil ?_
        clear a_48 HE49 a_50 HE51 a_52 HE53
        exact nrm ⟨a0.length - (k + 1), (by omega), k + 1, rfl, HE55.sub ⟨(lkS rfl (by first | (rw [join_step0 _ _ (by omega) (by omega), ← xe24]; done) | (rw [join_step1 _ _ (by omega) (by omega), ← xe24]; done) | (rw [join_step0 _ _ (by omega) (by omega), ← xe24]; rfl) | (rw [join_step1 _ _ (by omega) (by omega), ← xe24]; rfl) | (rw [join_step0 _ _ (by omega) (by omega), ← xe24]; simp [dotT, hc23]; done) | (rw [join_step1 _ _ (by omega) (by omega), ← xe24]; simp [dotT, hc23]; done))), (lkI rfl (by first | rfl | omega | (simp [p21_0, hc22, hc23, xe24]; done))), rfl, trivial⟩, (HH43.sel [] (by decide) rfl), (by first | omega | assumption | (simp; done) | simp_all)⟩
      · refine wp_skip ?_
        refine nrm ?_
        refine rg ?_
        refine pl_x HE24 HH12 (wt0 rfl) (x_move rfl) rfl rfl fun a_56 HE57 => ?_
        refine pl_x HE57 HH12 (wt0 rfl) (x_move rfl) rfl rfl fun a_58 HE59 => ?_
        refine pl_x HE59 HH12 (wt0 rfl) (x_move rfl) rfl rfl fun a_60 HE61 => ?_
        have ke26 : k < a0.length := by omega
        obtain ⟨be26, fe26, ese26, Ae26, Re26, De26⟩ := el_old h0 ke26
        obtain ⟨e26, xe26⟩ : ∃ x_, x_ = a0[k] := ⟨_, rfl⟩
        rw [← xe26] at Re26
        have Qe26 := Re26
        obtain ⟨Ae26_0, ce26_0, rfl, ge26_0⟩ := Re26
        have le26_0 := ge26_0.len
        have fe26 := s1 e26 (by rw [xe26]; exact List.getElem_mem _)
        refine pl_x HE61 HH12 (wt0 rfl) (x_indexAddr ts_42 rfl rfl Ae26 rfl ke26) rfl rfl fun a_62 HE63 => ?_
        refine pl_x HE63 HH12 (wt0 rfl) (x_load1 tv_51 rfl (c_old (De26 0 _ rfl))) rfl rfl fun a_64 HE65 => ?_
        refine pl fun K_66 hK67 => ?_
        refine st_call HE65 (wt0 rfl) rfl rfl rfl en_118 rfl rfl (spec_l09Letters _ _ e26 _ (HH12.old ge26_0) (by assumption)) fun e w' hr => ?_
        have hAr27_0 := dotT_len (w := e26) (by assumption)
        obtain ⟨rfl, hbr27⟩ := hr
        have HH68 := HH12.on hbr27
        refine ⟨_, rfl, fun a_69 HE70 => hK67 _ _ ?_⟩
        refine pl_x HE70 HH68 (wt0 rfl) (x_sadd rfl rfl (by first | omega | (simp only [List.length_append, List.length_cons, List.length_nil]; omega) | (simp; omega))) rfl rfl fun a_71 HE72 => ?_
        refine pl_x HE72 HH68 (wt0 rfl) (x_assign rfl) rfl rfl fun a_73 HE74 => ?_
        refine wpList_nil ?_
        clear a_23 HE24 a_56 HE57 a_58 HE59 a_60 HE61 a_62 HE63 HH12 a_64 HE65 a_69 HE70 a_71 HE72 hK67 K_66
        refine blk_n ?_
        refine nrm ?_
        refine rg ?_
        refine pl_x HE74 HH68 (wt0 rfl) (x_move rfl) rfl rfl fun a_75 HE76 => ?_
        refine pl_x HE76 HH68 (wt0 rfl) (x_add rfl rfl (by exact ⟨by omega, by omega⟩)) rfl rfl fun a_77 HE78 => ?_
        refine pl_x HE78 HH68 (wt0 rfl) (x_assign rfl) rfl rfl fun a_79 HE80 => ?_
        refine wpList_nil ?_
        clear a_73 HE74 a_75 HE76 a_77 HE78
        exact nrm ⟨a0.length - (k + 1), (by omega), k + 1, rfl, HE80.sub ⟨(lkS rfl (by first | (rw [join_step0 _ _ (by omega) (by omega), ← xe26]; done) | (rw [join_step1 _ _ (by omega) (by omega), ← xe26]; done) | (rw [join_step0 _ _ (by omega) (by omega), ← xe26]; rfl) | (rw [join_step1 _ _ (by omega) (by omega), ← xe26]; rfl) | (rw [join_step0 _ _ (by omega) (by omega), ← xe26]; simp [dotT, hc23]; done) | (rw [join_step1 _ _ (by omega) (by omega), ← xe26]; simp [dotT, hc23]; done))), (lkI rfl (by first | rfl | omega | (simp [p21_0, hc22, hc23, xe26]; done))), rfl, trivial⟩, (HH68.sel [] (by decide) rfl), (by first | omega | assumption | (simp; done) | simp_all)⟩
    · refine wp_exit ?_
      refine (thn_exit (thn_exit (blk_hit ?_)))
      refine nrm ?_
      refine wp_seq ?_
      refine rg ?_
      refine pl_x HE20 HH12 (wt0 rfl) (x_move rfl) rfl rfl fun a_81 HE82 => ?_
      refine pl_x HE82 HH12 (wt0 rfl) (x_assign rfl) rfl rfl fun a_83 HE84 => ?_
      refine wpList_nil ?_
      clear a_19 HE20 a_81 HE82
      refine nrm ?_
      refine wp_ret ?_
      refine ret1 HE84 rfl (rv_tmp rfl) ?_
      have hF : (wordsT a0) = (Go.Lib.join ((a0.take k).map dotT) [44]) := by
        unfold wordsT; rw [List.take_of_length_le (by omega)]
      exact ⟨by first | (rw [hF] <;> rfl) | rfl | (rw [hF]; simp only [Ending.returned.injEq, Value.slice.injEq, true_and, and_true]; first | omega | (simp; done)) | (rw [hF]; simp; omega), HH12.below⟩

set_option maxRecDepth 100000 in
set_option maxHeartbeats 4000000 in
theorem impl_TagText (es0 : List Value) (a0 : tTag) (w : World) (h0 : eTag.R w (Old w) es0 a0) (hG : Glob w) :
    Calls Tryd.prog 37 #[.agg es0.toArray] w fun e w' => e = .returned (.string (bs (tagText a0))) ∧ Below w.heap.size w w' := by
  have H0 := h0
  obtain ⟨Az0_1, cz0_1, Az0_2, cz0_2, rfl, gz0_0, gz0_1, gz0_2⟩ := shape_Tag h0
  have jz0_0 := gz0_0; unfold I64 at jz0_0
  have lz0_1 := gz0_1.len
  have lz0_2 := gz0_2.len
  have HH1 := Held.start Nob w
  refine enter (n := 19) Tryd.func37 rfl rfl rfl fun a_2 HE3 => ?_
  refine wp_seq ?_
  refine rg ?_
  refine pl fun K_4 hK5 => ?_
  refine st_box (cs := [.int .i64 (a0.1), .slice Az0_1 (a0.2.1.length) cz0_1, .slice Az0_2 (a0.2.2.length) cz0_2]) HE3 HH1 rfl rfl (wt0 rfl) rfl fun q21 a_6 w' HE7 HH8 => hK5 _ _ ?_
  refine pl_x HE7 HH8 (wt0 rfl) (x_assign rfl) rfl rfl fun a_9 HE10 => ?_
  refine wpList_nil ?_
  clear a_2 HE3 HH1 a_6 HE7 hK5 K_4
  refine nrm ?_
  refine wp_seq ?_
  refine wp_seq ?_
  refine rg ?_
  refine pl_x HE10 HH8 (wt0 rfl) (x_loadN (cs := [.int .i64 (a0.1), .slice Az0_1 (a0.2.1.length) cz0_1, .slice Az0_2 (a0.2.2.length) cz0_2]) tv_64 rfl rfl (c_blkN 0 rfl)) rfl rfl fun a_11 HE12 => ?_
  refine pl fun K_13 hK14 => ?_
  refine st_call HE12 (wt0 rfl) rfl rfl rfl en_85 rfl rfl (impl_ValidTag [.int .i64 (a0.1), .slice Az0_1 (a0.2.1.length) cz0_1, .slice Az0_2 (a0.2.2.length) cz0_2] a0 _ (HH8.oldR H0)) fun e w' hr => ?_
  obtain ⟨rfl, hbr22⟩ := hr
  have HH15 := HH8.on hbr22
  refine ⟨_, rfl, fun a_16 HE17 => hK14 _ _ ?_⟩
  refine pl_x HE17 HH15 (wt0 rfl) (x_not rfl) rfl rfl fun a_18 HE19 => ?_
  refine wpList_nil ?_
  clear a_9 HE10 HH8 a_11 HE12 a_16 HE17 hK14 K_13
  refine nrm ?_
  refine cnd_nb HE19 rfl (fun hc23 => ?_) (fun hc23 => ?_)
  · refine wp_seq ?_
    refine rg ?_
    refine pl_x HE19 HH15 (wt0 rfl) (x_assign rfl) rfl rfl fun a_20 HE21 => ?_
    refine wpList_nil ?_
    clear a_18 HE19
    refine nrm ?_
    refine wp_ret ?_
    refine (thn_ret ?_)
    refine ret1 HE21 rfl (rv_tmp rfl) ?_
    have hF : (tagText a0) = [] := by
      unfold tagText; simp [hc23]
    exact ⟨by first | (rw [hF] <;> rfl) | rfl | (rw [hF]; simp only [Ending.returned.injEq, Value.slice.injEq, true_and, and_true]; first | omega | (simp; done)) | (rw [hF]; simp; omega), HH15.below⟩
  · obtain ⟨v0, v1, v2, v3⟩ := validTag_ok hc23
    refine wp_skip ?_
    refine nrm ?_
    refine wp_seq ?_
    refine dr_start (Held Nob w [rBlk q21 64 [.int .i64 (a0.1), .slice Az0_1 (a0.2.1.length) cz0_1, .slice Az0_2 (a0.2.2.length) cz0_2]]) 14 #[false, false, false, false, false, false, false, false, false, false, false, false, false, false] hmix rfl rfl HH15 (fun _ h => h.sel [0] (by decide) rfl) fun w' HH22 => ?_
    have HS23 := HH22
    refine dr_take (i := 0) (ls' := #[true, false, false, false, false, false, false, false, false, false, false, false, false, false]) HE19 HS23 rfl (by kernel_rfl) (by kernel_rfl) (by kernel_rfl) (fun _ _ _ h => h) rfl (wt0 rfl) (x_fieldAddr fa_64_0 rfl) rfl rfl fun a_24 HE25 => ?_
    refine dr_take (i := 1) (ls' := #[true, true, false, false, false, false, false, false, false, false, false, false, false, false]) HE25 HS23 rfl (by kernel_rfl) (by kernel_rfl) (by kernel_rfl) (fun _ _ _ h => h) rfl (wt0 rfl) (x_load1 tv_2 rfl (c_blk 0 rfl rfl)) rfl rfl fun a_26 HE27 => ?_
    refine dr_take (i := 4) (ls' := #[true, true, false, false, true, false, false, false, false, false, false, false, false, false]) HE27 HS23 rfl (by kernel_rfl) (by kernel_rfl) (by kernel_rfl) (fun _ _ _ h => h) rfl (wt0 rfl) (x_fieldAddr fa_64_1 rfl) rfl rfl fun a_28 HE29 => ?_
    refine dr_take (i := 5) (ls' := #[true, true, false, false, true, true, false, false, false, false, false, false, false, false]) HE29 HS23 rfl (by kernel_rfl) (by kernel_rfl) (by kernel_rfl) (fun _ _ _ h => h) rfl (wt0 rfl) (x_load1 tv_42 rfl (c_blk 0 rfl rfl)) rfl rfl fun a_30 HE31 => ?_
    refine dr_take (i := 9) (ls' := #[true, true, false, false, true, true, false, false, false, true, false, false, false, false]) HE31 HS23 rfl (by kernel_rfl) (by kernel_rfl) (by kernel_rfl) (fun _ _ _ h => h) rfl (wt0 rfl) (x_fieldAddr fa_64_2 rfl) rfl rfl fun a_32 HE33 => ?_
    refine dr_take (i := 10) (ls' := #[true, true, false, false, true, true, false, false, false, true, true, false, false, false]) HE33 HS23 rfl (by kernel_rfl) (by kernel_rfl) (by kernel_rfl) (fun _ _ _ h => h) rfl (wt0 rfl) (x_load1 tv_51 rfl (c_blk 0 rfl rfl)) rfl rfl fun a_34 HE35 => ?_
    refine dr_one (i := 2) (ls' := #[true, true, true, false, true, true, false, false, false, true, true, false, false, false]) rfl (by kernel_rfl) rfl fun K_36 hK37 => ?_
    refine st_call HE35 (wt0 rfl) rfl rfl rfl en_60 rfl rfl (impl_Decimal a0.1 _ (HH22.glob hG) (by omega)) fun e w' hr => ?_
    have hAr24_0 := itoa_len (n := a0.1) (by omega)
    obtain ⟨rfl, hbr24⟩ := hr
    have HH38 := HH22.on hbr24
    refine ⟨_, rfl, fun a_39 HE40 => hK37 _ _ (by exact HH38.sel [0] (by decide) rfl) ?_⟩
    have HS41 := HH38.sel [0] (by decide) rfl
    refine dr_take (i := 3) (ls' := #[true, true, true, true, true, true, false, false, false, true, true, false, false, false]) HE40 HS41 rfl (by kernel_rfl) (by kernel_rfl) (by kernel_rfl) (fun _ _ _ h => h) rfl (wt0 rfl) (x_sadd rfl rfl (by first | omega | (simp only [List.length_append, List.length_cons, List.length_nil]; omega) | (simp; omega))) rfl rfl fun a_42 HE43 => ?_
    refine dr_one (i := 6) (ls' := #[true, true, true, true, true, true, true, false, false, true, true, false, false, false]) rfl (by kernel_rfl) rfl fun K_44 hK45 => ?_
    refine st_call HE43 (wt0 rfl) rfl rfl rfl en_74 rfl rfl (impl_wordsText _ _ a0.2.1 _ (HH38.old gz0_1) (HH38.glob hG) (by omega) (by assumption)) fun e w' hr => ?_
    have hAr25_0 := wordsT_len (l := a0.2.1) (by assumption) (by omega)
    obtain ⟨rfl, hbr25⟩ := hr
    have HH46 := HH38.on hbr25
    refine ⟨_, rfl, fun a_47 HE48 => hK45 _ _ (by exact HH46.sel [0] (by decide) rfl) ?_⟩
    have HS49 := HH46.sel [0] (by decide) rfl
    refine dr_take (i := 7) (ls' := #[true, true, true, true, true, true, true, true, false, true, true, false, false, false]) HE48 HS49 rfl (by kernel_rfl) (by kernel_rfl) (by kernel_rfl) (fun _ _ _ h => h) rfl (wt0 rfl) (x_sadd rfl rfl (by first | omega | (simp only [List.length_append, List.length_cons, List.length_nil]; omega) | (simp; omega))) rfl rfl fun a_50 HE51 => ?_
    refine dr_take (i := 8) (ls' := #[true, true, true, true, true, true, true, true, true, true, true, false, false, false]) HE51 HS49 rfl (by kernel_rfl) (by kernel_rfl) (by kernel_rfl) (fun _ _ _ h => h) rfl (wt0 rfl) (x_sadd rfl rfl (by first | omega | (simp only [List.length_append, List.length_cons, List.length_nil]; omega) | (simp; omega))) rfl rfl fun a_52 HE53 => ?_
    refine dr_one (i := 11) (ls' := #[true, true, true, true, true, true, true, true, true, true, true, true, false, false]) rfl (by kernel_rfl) rfl fun K_54 hK55 => ?_
    refine st_call HE53 (wt0 rfl) rfl rfl rfl en_86 rfl rfl (impl_dotted _ _ a0.2.2 _ (HH46.old gz0_2) (HH46.glob hG) (by assumption)) fun e w' hr => ?_
    have hAr26_0 := dotT_len (w := a0.2.2) (by assumption)
    obtain ⟨rfl, hbr26⟩ := hr
    have HH56 := HH46.on hbr26
    refine ⟨_, rfl, fun a_57 HE58 => hK55 _ _ (by exact HH56.sel [0] (by decide) rfl) ?_⟩
    have HS59 := HH56.sel [0] (by decide) rfl
    refine dr_take (i := 12) (ls' := #[true, true, true, true, true, true, true, true, true, true, true, true, true, false]) HE58 HS59 rfl (by kernel_rfl) (by kernel_rfl) (by kernel_rfl) (fun _ _ _ h => h) rfl (wt0 rfl) (x_sadd rfl rfl (by first | omega | (simp only [List.length_append, List.length_cons, List.length_nil]; omega) | (simp; omega))) rfl rfl fun a_60 HE61 => ?_
    refine dr_take (i := 13) (ls' := #[true, true, true, true, true, true, true, true, true, true, true, true, true, true]) HE61 HS59 rfl (by kernel_rfl) (by kernel_rfl) (by kernel_rfl) (fun _ _ _ h => h) rfl (wt0 rfl) (x_assign rfl) rfl rfl fun a_62 HE63 => ?_
    refine dr_done (by kernel_rfl) ?_
    clear HH15 a_18 HE19 a_24 HE25 a_26 HE27 a_28 HE29 a_30 HE31 a_32 HE33 HH22 a_34 HE35 HS23 a_39 HE40 K_36 hK37 HH38 a_42 HE43 HS41 a_47 HE48 a_50 HE51 K_44 hK45 HH46 a_52 HE53 HS49 a_57 HE58 a_60 HE61 hK55 K_54
    refine nrm ?_
    refine wp_ret ?_
    refine ret1 HE63 rfl (rv_tmp rfl) ?_
    have hF : (tagText a0) = (((((Go.Lib.itoa a0.1) ++ [58]) ++ (wordsT a0.2.1)) ++ [58]) ++ (dotT a0.2.2)) := by
      unfold tagText; simp [hc23]
    exact ⟨by first | (rw [hF] <;> rfl) | rfl | (rw [hF]; simp only [Ending.returned.injEq, Value.slice.injEq, true_and, and_true]; first | omega | (simp; done)) | (rw [hF]; simp; omega), HH56.below⟩

end Go.Proofs.YtjnnkmflpbildaaDoor
