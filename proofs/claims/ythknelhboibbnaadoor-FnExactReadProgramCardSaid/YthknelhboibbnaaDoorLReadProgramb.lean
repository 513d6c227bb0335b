/- What the proof of FnExactReadProgram needs: contracts of the functions that it reaches, each once. -/
import Derived.Test.YthknelhboibbnaaDoorProg
import Derived.Test.YthknelhboibbnaaDoorQMem
import Derived.Test.YthknelhboibbnaaDoorQOpen
import Derived.Test.YthknelhboibbnaaDoorLReadPrograma
import Derived.WalkKit
import Derived.WalkSpells
import Derived.Below
import Derived.LoopTactic
import Derived.Outline
import Derived.Deep.QuietTactic
import Derived.BigQuiet
import Derived.Deep.LoopGhost
import Derived.Handy
import Derived.Lib.Hide
import Derived.Shelf.Abstract
import Derived.StillTailTactics
import Derived.OwnWalk
import Derived.Maps.AppendAt
import Derived.RegionTactic
import Derived.Deep.RegionHeld3
import Derived.IntWalk
import Derived.Deep.Upon
import Derived.Laws.OwnMore
import Derived.Maps.AppendAt
import Derived.Laws.BytesString
import Derived.Laws.Strings
import Derived.Lib.Bytes
import Derived.Lib.Strings
import Derived.Lib.FrozenHead
import Derived.Lib.RuneBytes
import Derived.Lib.LaidTab
import Derived.Laws.StructEq
import Derived.Lib.ItoaLen
import Derived.Lib.Join
import Derived.Shelf.Strconv.Itoa4
import Derived.Shelf.Strings.OnBuilder
import Derived.Shelf.Strings.BuilderK
import Derived.Shelf.Strings.BuilderRune
import Derived.Shelf.LaysM
import Derived.Ground.NamesProg
import Derived.Lib.ParseIntBTie
import Derived.Lib.SplitLaws
import Derived.Lib.Replace
import Derived.Shelf.LaysC
import Derived.Shelf.Strconv.ErrVarParseInt
import Derived.Shelf.Strconv.ParseIntPublic10
import Derived.Shelf.Strings.Prefix
import Derived.Shelf.Strings.Cut
import Derived.Shelf.Strings.Split
import Derived.Shelf.Strings.Replace
import Derived.Shelf.Small.Wraps
import Derived.Stop.IfaceNil
namespace Go.Proofs.YthknelhboibbnaaDoor
open Go.RowKit

/-- What a callee made, beside what is held. -/
theorem Held.app {M : Nat → Prop} {w0 : World} {rs qs : List Res} {w w' : World} (h : Held M w0 rs w) (h' : Held Nob w qs w') : Held M w0 (qs ++ rs) w' where
  chg := (h.on h'.below).chg
  ok := by
    intro r hr
    rcases List.mem_append.1 hr with hr | hr
    · exact h'.ok r hr
    · exact (h.on h'.below).ok r hr
  rng := by
    intro r hr b hb
    rcases List.mem_append.1 hr with hr | hr
    · have h1 := h'.rng r hr b hb
      exact ⟨.inr (Nat.le_trans h.size (h1.1.resolve_left fun q => q.elim)), h1.2⟩
    · exact (h.on h'.below).rng r hr b hb
  sep := by
    refine List.pairwise_append.2 ⟨h'.sep, h.sep, fun r hr s hs b hb hb' => ?_⟩
    have h1 := (h'.rng r hr b hb).1.resolve_left fun q => q.elim
    have h2 := (h.rng s hs b hb').2
    omega

/-- Held only if p holds. -/
def rIf (p : Prop) (r : Res) : Res := ⟨r.S, fun w => p → r.φ w, fun w w' h hp hq => r.loc w w' h (hp hq)⟩

theorem Held.toIf {M : Nat → Prop} {w0 : World} {rs : List Res} {r : Res} {w : World} (h : Held M w0 (r :: rs) w) (p : Prop) : Held M w0 (rIf p r :: rs) w :=
  h.turn (rIf p r) (fun hr _ => hr) fun _ h => h

theorem Held.ofIf {M : Nat → Prop} {w0 : World} {rs : List Res} {r : Res} {w : World} {p : Prop} (h : Held M w0 (rIf p r :: rs) w) (hp : p) : Held M w0 (r :: rs) w :=
  h.turn r (fun hr => hr hp) fun _ h => h

theorem Held.noIf {M : Nat → Prop} {w0 : World} {rs : List Res} {w : World} {p : Prop} (h : Held M w0 rs w) {α : Type} {E : Enc α} {A : Option Addr} {c : Nat} {xs : List α} (r : Res) (hp : ¬ p) (hr : r = rSo E Nob A c xs := by rfl) : Held M w0 (rIf p r :: rs) w := by
  subst hr
  exact h.new (Below.refl _ _) (rIf p (rSo E Nob A c xs)) (fun hq => absurd hq hp) fun _ h => h.elim

abbrev bs (l : List UInt8) : ByteArray := ⟨l.toArray⟩

theorem bs_size (l : List UInt8) : (bs l).size = l.length := by simp [bs, ByteArray.size]

theorem bs_toList (l : List UInt8) : (bs l).toList = l := by rw [Go.Lib.toList_data]

theorem bs_app (a b : List UInt8) : bs a ++ bs b = bs (a ++ b) := by
  rw [ByteArray.mk_append_mk]

theorem bs_eta (s : ByteArray) : bs s.data.toList = s := by cases s; simp

/-- A text. -/
def eTxt : Enc (List UInt8) where
  size := 1
  pos := Nat.zero_lt_one
  R := fun _ _ cs x => cs = [.string (bs x)] ∧ x.length ≤ 9223372036854775807
  len := by rintro _ _ _ _ ⟨rfl, _⟩; rfl
  keep := fun h _ => h
  more := fun h _ => h
  O := fun _ _ cs x => cs = [.string (bs x)] ∧ x.length ≤ 9223372036854775807
  read := fun h => h
  okeep := fun h _ => h
  omore := fun h _ => h

theorem oS {w : World} {S : Nat → Prop} {x : List UInt8} (h : x.length ≤ 9223372036854775807) : eTxt.O w S [.string (bs x)] x := ⟨rfl, h⟩

theorem x_sadd {P : Program} {S : World → Prop} {L : List (Nat × Value)} {d : Option Tmp} {t t' : TypeId} {x y : Operand} {m k : List UInt8} {ty : TypeId} {pos : String} {af : Array Edge} {g : Option (Nat × Bool)} (hx : ev L x = some (.string (bs m))) (hy : ev L y = some (.string (bs k))) (h : m.length + k.length ≤ 9223372036854775807) : XS P S L ⟨d, .binOp .add t x y t', ty, pos, af, g⟩ (.string (bs (m ++ k))) := fun _ _ _ hE _ => by
  have e : ¬ (((bs m).size + (bs k).size : Nat) : Int) > IntKind.i64.max := by
    rw [bs_size, bs_size]; show ¬ _ > (9223372036854775807 : Int); omega
  simp only [execOp, hE.ev hx, hE.ev hy, eqGuard, binOp, Op.stringOp, if_neg e, bs_app]; rfl

theorem beq_dec (m k : List UInt8) : (m == k) = decide (m = k) := by
  by_cases h : m = k <;> simp [h]

theorem x_seqlB {P : Program} {S : World → Prop} {L : List (Nat × Value)} {d : Option Tmp} {t t' : TypeId} {x y : Operand} {m k : List UInt8} {ty : TypeId} {pos : String} {af : Array Edge} {g : Option (Nat × Bool)} (hx : ev L x = some (.string (bs m))) (hy : ev L y = some (.string (bs k))) : XS P S L ⟨d, .binOp .eql t x y t', ty, pos, af, g⟩ (.bool (decide (m = k))) := by
  have := x_seql (P := P) (S := S) (d := d) (t := t) (t' := t') (ty := ty) (pos := pos) (af := af) (g := g) hx hy
  rwa [bs_toList, bs_toList, beq_dec] at this

theorem x_sneqB {P : Program} {S : World → Prop} {L : List (Nat × Value)} {d : Option Tmp} {t t' : TypeId} {x y : Operand} {m k : List UInt8} {ty : TypeId} {pos : String} {af : Array Edge} {g : Option (Nat × Bool)} (hx : ev L x = some (.string (bs m))) (hy : ev L y = some (.string (bs k))) : XS P S L ⟨d, .binOp .neq t x y t', ty, pos, af, g⟩ (.bool (!decide (m = k))) := by
  have := x_sneq (P := P) (S := S) (d := d) (t := t) (t' := t') (ty := ty) (pos := pos) (af := af) (g := g) hx hy
  rwa [bs_toList, bs_toList, beq_dec] at this

theorem x_lenB {P : Program} {S : World → Prop} {L : List (Nat × Value)} {d : Option Tmp} {x : Operand} {t : TypeId} {s : List UInt8} {ty : TypeId} {pos : String} {af : Array Edge} {g : Option (Nat × Bool)} (ht : P.underlying t = some .string) (hx : ev L x = some (.string (bs s))) : XS P S L ⟨d, .call { callee := .builtin .len, args := #[x], argTypes := #[t] }, ty, pos, af, g⟩ (.int .i64 (s.length : Int)) := by
  have := x_lenS (P := P) (S := S) (d := d) (ty := ty) (pos := pos) (af := af) (g := g) ht hx
  rwa [bs_size] at this

theorem x_idxB {P : Program} {S : World → Prop} {L : List (Nat × Value)} {d : Option Tmp} {t : TypeId} {x y : Operand} {l : List UInt8} {q : IntKind} {m : Int} {k : Nat} {b : UInt8} {ty : TypeId} {pos : String} {af : Array Edge} {g : Option (Nat × Bool)} (ht : P.underlying t = some .string) (hx : ev L x = some (.string (bs l))) (hy : ev L y = some (.int q m)) (hm : m = (k : Int)) (hk : k < l.length) (hb : b = l[k]) : XS P S L ⟨d, .index t x y, ty, pos, af, g⟩ (.int .u8 (b.toNat : Int)) := fun _ _ w hE _ => by
  subst hm hb
  have h := run_index_string (P := P) w t (bs l) q (k : Int) ht
  rw [dif_pos ⟨by omega, by rw [bs_size]; omega⟩] at h
  simp only [execOp, hE.ev hx, hE.ev hy, Sem.run_bind, h, Result.andThen_ok]
  rfl

theorem x_sliceSL {P : Program} {S : World → Prop} {L : List (Nat × Value)} {d : Option Tmp} {x lo : Operand} {t : TypeId} {l : List UInt8} {k : Nat} {m : Int} {q : IntKind} {ty : TypeId} {pos : String} {af : Array Edge} {g : Option (Nat × Bool)} (ht : P.underlying t = some .string) (hx : ev L x = some (.string (bs l))) (hlo : ev L lo = some (.int q m)) (hm : m = (k : Int)) (hk : k ≤ l.length) : XS P S L ⟨d, .slice t x (some lo) none none, ty, pos, af, g⟩ (.string (bs (l.drop k))) := fun _ _ _ hE _ => by
  subst hm
  have hsz := bs_size l
  have e : (bs l).extract k (bs l).size = bs (l.drop k) := by
    refine WideShapes.bytes_inj ?_
    rw [Go.Lib.extract_data, hsz]
    exact List.take_of_length_le (by rw [List.length_drop]; exact Nat.le_refl _)
  simp [execOp, hE.ev hx, hE.ev hlo, Instr.sliceAt, Instr.slice, run_underlying ht, Instr.sliceBounds, Instr.sliceBound, asIntOf, hsz, hk]
  simpa [hsz] using e

theorem x_sliceSH {P : Program} {S : World → Prop} {L : List (Nat × Value)} {d : Option Tmp} {x lo hi : Operand} {t : TypeId} {l : List UInt8} {k k2 : Nat} {m m2 : Int} {q q2 : IntKind} {ty : TypeId} {pos : String} {af : Array Edge} {g : Option (Nat × Bool)} (ht : P.underlying t = some .string) (hx : ev L x = some (.string (bs l))) (hlo : ev L lo = some (.int q m)) (hhi : ev L hi = some (.int q2 m2)) (hm : m = (k : Int)) (hm2 : m2 = (k2 : Int)) (hk : k ≤ k2) (hk2 : k2 ≤ l.length) : XS P S L ⟨d, .slice t x (some lo) (some hi) none, ty, pos, af, g⟩ (.string (bs ((l.drop k).take (k2 - k)))) := fun _ _ _ hE _ => by
  subst hm hm2
  have hsz := bs_size l
  have e : (bs l).extract k k2 = bs ((l.drop k).take (k2 - k)) := by
    refine WideShapes.bytes_inj ?_
    rw [Go.Lib.extract_data]
  simp [execOp, hE.ev hx, hE.ev hlo, hE.ev hhi, Instr.sliceAt, Instr.slice, run_underlying ht, Instr.sliceBounds, Instr.sliceBound, asIntOf, hsz, hk, hk2]
  simpa [hsz] using e

theorem c_ownS {M : Nat → Prop} {w0 : World} {rs : List Res} {S : Nat → Prop} {b off c k : Nat} {xs : List (List UInt8)} {y : List UInt8} (i : Nat) (hi : rs[i]? = some (rSo eTxt S (some ⟨b, off, none⟩) c xs)) (hk : k < xs.length) (hy : xs[k] = y) : ∀ w, Held M w0 rs w → w.cell? ⟨b, off + k * 1, none⟩ = some (.string (bs y)) := fun w h => by
  obtain ⟨b', off', es, hA, _, hR, hc⟩ := (h.sl hi).at hk
  simp only [Option.some.injEq, Addr.mk.injEq, and_true] at hA
  obtain ⟨rfl, rfl⟩ := hA
  obtain ⟨rfl, _⟩ := hR
  have := hc 0 _ rfl
  rw [← hy]; exact this

theorem i_ownS {M : Nat → Prop} {w0 w : World} {rs : List Res} {S : Nat → Prop} {A : Option Addr} {c k : Nat} {xs : List (List UInt8)} (h : Held M w0 rs w) (i : Nat) (hi : rs[i]? = some (rSo eTxt S A c xs)) (hk : k < xs.length) : xs[k].length ≤ 9223372036854775807 := by
  obtain ⟨b', off', es, hA, _, hR, hc⟩ := (h.sl hi).at hk
  exact hR.2

/-- A builder in block b, its own blocks in S, holding the bytes l. -/
def BldIn (T e : TypeId) (B b : Nat) (S : Nat → Prop) (l : List UInt8) (w : World) : Prop :=
  Lib.IsBuilderF T e B b (Lib.byteCells l) w ∧ S b ∧ ∀ p v g, w.heap[b]? = some (.cells #[p, v] T (0, 0)) → v.ownBlock = some g → S g

theorem BldIn.loc {T e : TypeId} {B b : Nat} {S : Nat → Prop} {l : List UInt8} {w w' : World} (hs : ∀ k, S k → w'.heap[k]? = w.heap[k]?) (h : BldIn T e B b S l w) : BldIn T e B b S l w' := by
  obtain ⟨h1, h2, h3⟩ := h
  have key : ∀ p, Lib.BuilderAtF T e B b p (Lib.byteCells l) w → Lib.BuilderAtF T e B b p (Lib.byteCells l) w' := by
    rintro p ⟨hB, v, hb, hown, hne⟩
    refine ⟨hB, v, (hs b h2).trans hb, ⟨hown.1, ?_⟩, hne⟩
    rcases hown.2 with hn | ⟨g, cap, cur, fz, rfl, hbg, hg, rest⟩
    · exact .inl hn
    · exact .inr ⟨g, cap, cur, fz, rfl, hbg, (hs g (h3 _ _ g hb (by simp [Value.ownBlock]))).trans hg, rest⟩
  refine ⟨?_, h2, fun p v g hb hv => h3 p v g ((hs b h2).symm.trans hb) hv⟩
  rcases h1 with h | h
  · exact .inl (key _ h)
  · exact .inr (key _ h)

def rBldT (T e : TypeId) (B b : Nat) (S : Nat → Prop) (l : List UInt8) : Res := ⟨S, BldIn T e B b S l, fun _ _ hs h => BldIn.loc hs h⟩

theorem BldIn.mk {T e : TypeId} {B b : Nat} {l : List UInt8} {w : World} (h : Lib.IsBuilderF T e B b (Lib.byteCells l) w) : BldIn T e B b (Iv B w.heap.size) l w := by
  have hb : B ≤ b ∧ b < w.heap.size := by
    rcases h with h | h
    · exact ⟨h.1, h.lt⟩
    · exact ⟨h.1, h.lt⟩
  refine ⟨h, hb, fun p v g hh hv => ?_⟩
  have key : ∀ q, Lib.BuilderAtF T e B b q (Lib.byteCells l) w → Iv B w.heap.size g := by
    rintro q ⟨_, v', hb', hown, _⟩
    rw [hh] at hb'
    simp only [Option.some.injEq, Obj.cells.injEq, and_true] at hb'
    have e2 : v = v' := by
      have := congrArg (fun a : Array Value => a[1]?) hb'
      simpa using this
    subst e2
    exact hown.lt g hv
  rcases h with h | h
  · exact key _ h
  · exact key _ h

theorem Held.bldCall {T e : TypeId} {w0 w w' : World} {b : Nat} {S : Nat → Prop} {l l' : List UInt8} (h : Held Nob w0 [rBldT T e w0.heap.size b S l] w) (hb : Below w0.heap.size w w') (hi : Lib.IsBuilderF T e w0.heap.size b (Lib.byteCells l') w') : ∃ S', Held Nob w0 [rBldT T e w0.heap.size b S' l'] w' := by
  refine ⟨Iv w0.heap.size w'.heap.size, ?_⟩
  have hb2 : Below w0.heap.size w0 w' := h.below.trans hb
  exact ⟨.of_below hb2, by intro r hr; obtain rfl := List.mem_singleton.1 hr; exact BldIn.mk hi, by intro r hr; obtain rfl := List.mem_singleton.1 hr; exact fun k hk => ⟨.inr hk.1, hk.2⟩, List.pairwise_singleton _ _⟩

theorem Held.toBld {T e : TypeId} {w0 w : World} {b : Nat} {rs : List Res} (h : Held Nob w0 (rBlk b T [.pointer none, .slice none 0 0] :: rs) w) : ∃ S, Held Nob w0 [rBldT T e w0.heap.size b S []] w := by
  have hB : Blk w b T #[.pointer none, .slice none 0 0] := h.ok _ List.mem_cons_self
  have hr := h.rng _ (List.mem_cons_self) b rfl
  have hle : w0.heap.size ≤ b := hr.1.resolve_left fun x => x.elim
  have hi : Lib.IsBuilderF T e w0.heap.size b (Lib.byteCells []) w := .inl ⟨hle, _, hB, by simpa [Lib.byteCells] using World.ownsRowF_nil w w0.heap.size e 1, by simp [Value.ownBlock]⟩
  refine ⟨Iv w0.heap.size w.heap.size, ⟨h.chg, ?_, ?_, List.pairwise_singleton _ _⟩⟩
  · intro r hr; obtain rfl := List.mem_singleton.1 hr; exact BldIn.mk hi
  · intro r hr; obtain rfl := List.mem_singleton.1 hr; exact fun k hk => ⟨.inr hk.1, hk.2⟩

theorem Held.isBld {T e : TypeId} {M : Nat → Prop} {w0 w : World} {B b : Nat} {S : Nat → Prop} {l : List UInt8} {rs : List Res} (h : Held M w0 (rBldT T e B b S l :: rs) w) : Lib.IsBuilderF T e B b (Lib.byteCells l) w := (h.ok _ List.mem_cons_self : BldIn T e B b S l w).1

theorem x_sub8 {P : Program} {S : World → Prop} {L : List (Nat × Value)} {d : Option Tmp} {t t' : TypeId} {x y : Operand} {m k : Int} {ty : TypeId} {pos : String} {af : Array Edge} {g : Option (Nat × Bool)} (hx : ev L x = some (.int .u8 m)) (hy : ev L y = some (.int .u8 k)) (h : 0 ≤ m - k ∧ m - k ≤ 255) : XS P S L ⟨d, .binOp .sub t x y t', ty, pos, af, g⟩ (.int .u8 (m - k)) := fun _ _ _ hE _ => by
  have e : IntKind.u8.wrap (m - k) = m - k := IntWalk.u8_in _ h
  simp only [execOp, hE.ev hx, hE.ev hy, eqGuard, binOp, Op.intArith, e]; rfl

/-- What a package-level variable holds stays when only new blocks come and blocks behind it change. -/
theorem tab_below {P : Program} {w w' : World} {name : String} {k : IntKind} {zs : List Int} {g : Nat} (hg : P.globalNamed name = some g) (h : Lib.TabIs P w name k zs) (hb : Below w.heap.size w w') : Lib.TabIs P w' name k zs := by
  unfold Lib.TabIs World.var? at h ⊢
  rw [hg] at h ⊢
  simp only [Option.bind_some] at h ⊢
  have hlt : g < w.heap.size := by
    rcases Nat.lt_or_ge g w.heap.size with hlt | hge
    · exact hlt
    · rw [Array.getElem?_eq_none hge] at h; cases h
  rw [hb.block g hlt]
  exact h

theorem tv_2 : TV Tryd.prog 2 false [.int .i64 0] := by
  obtain ⟨i, h1, h2, h3⟩ := tv_parts (show (Tryd.prog.info? 2).map (fun i => (i.zero, i.size)) = some (some (.int .i64 0), 1) from by kernel_rfl)
  exact ⟨⟨_, Tryd.underlying2, rfl⟩, i, _, h1, h2, h3, rfl⟩

theorem tv_9 : TV Tryd.prog 9 false [.string ByteArray.empty] := by
  obtain ⟨i, h1, h2, h3⟩ := tv_parts (show (Tryd.prog.info? 9).map (fun i => (i.zero, i.size)) = some (some (.string ByteArray.empty), 1) from by kernel_rfl)
  exact ⟨⟨_, Tryd.underlying9, rfl⟩, i, _, h1, h2, h3, rfl⟩

theorem tv_62 : TV Tryd.prog 62 true [.int .i64 0, .int .i64 0, .int .i64 0, .int .i64 0] := by
  obtain ⟨i, h1, h2, h3⟩ := tv_parts (show (Tryd.prog.info? 62).map (fun i => (i.zero, i.size)) = some (some (.agg #[.int .i64 0, .int .i64 0, .int .i64 0, .int .i64 0]), 4) from by kernel_rfl)
  exact ⟨⟨_, Tryd.underlying62, rfl⟩, i, _, h1, h2, h3, rfl⟩

theorem ts_36 : TSl Tryd.prog 36 62 4 32 := by
  obtain ⟨i, h1, h2, h3, h4⟩ := ts_parts (show (Tryd.prog.info? 62).map (fun i => (i.zero, i.size, i.bytes)) = some (some (.agg #[.int .i64 0, .int .i64 0, .int .i64 0, .int .i64 0]), 4, 32) from by kernel_rfl)
  exact ⟨Tryd.underlying36, i, _, h1, h2, h3, h4, rfl⟩

theorem ts_43 : TSl Tryd.prog 43 9 1 16 := by
  obtain ⟨i, h1, h2, h3, h4⟩ := ts_parts (show (Tryd.prog.info? 9).map (fun i => (i.zero, i.size, i.bytes)) = some (some (.string ByteArray.empty), 1, 16) from by kernel_rfl)
  exact ⟨Tryd.underlying43, i, _, h1, h2, h3, h4, rfl⟩

theorem fa_62_0 : ∀ b o w, (Instr.fieldAt 62 (.pointer (some ⟨b, o, none⟩)) 0).run Tryd.prog w = .ok (.pointer (some ⟨b, o + 0, none⟩)) w := by
  obtain ⟨i, z, h1, _, h3, _⟩ := tv_2.info
  exact fun b o w => fieldAt_of (f := 0) Tryd.underlying62 rfl h1 (by rw [h3]; decide) b o w

theorem fa_62_1 : ∀ b o w, (Instr.fieldAt 62 (.pointer (some ⟨b, o, none⟩)) 1).run Tryd.prog w = .ok (.pointer (some ⟨b, o + 1, none⟩)) w := by
  obtain ⟨i, z, h1, _, h3, _⟩ := tv_2.info
  exact fun b o w => fieldAt_of (f := 1) Tryd.underlying62 rfl h1 (by rw [h3]; decide) b o w

theorem fa_62_2 : ∀ b o w, (Instr.fieldAt 62 (.pointer (some ⟨b, o, none⟩)) 2).run Tryd.prog w = .ok (.pointer (some ⟨b, o + 2, none⟩)) w := by
  obtain ⟨i, z, h1, _, h3, _⟩ := tv_2.info
  exact fun b o w => fieldAt_of (f := 2) Tryd.underlying62 rfl h1 (by rw [h3]; decide) b o w

theorem fa_62_3 : ∀ b o w, (Instr.fieldAt 62 (.pointer (some ⟨b, o, none⟩)) 3).run Tryd.prog w = .ok (.pointer (some ⟨b, o + 3, none⟩)) w := by
  obtain ⟨i, z, h1, _, h3, _⟩ := tv_2.info
  exact fun b o w => fieldAt_of (f := 3) Tryd.underlying62 rfl h1 (by rw [h3]; decide) b o w

theorem tb_62 : TB Tryd.prog 62 [.int .i64 0, .int .i64 0, .int .i64 0, .int .i64 0] := by
  refine ⟨tv_62, _, #[(0, 1), (1, 1), (2, 1), (3, 1)], Tryd.underlying62, fun w => ?_, fun i hi => ?_⟩
  · obtain ⟨i2, z2, h2, _, s2, _⟩ := tv_2.info; simp only [List.length_cons, List.length_nil] at s2
    simp [sizeOf, typeInfo, h2, s2]
  · simp only [List.length_cons, List.length_nil] at hi
    match i, hi with
    | 0, _ => rfl
    | 1, _ => rfl
    | 2, _ => rfl
    | 3, _ => rfl

theorem en_17 : ∀ args w, (callFunc 17 args).run Tryd.prog w = .ok (.enter 17 args) w := enters_of Tryd.func17 (by kernel_rfl) rfl

theorem en_18 : ∀ args w, (callFunc 18 args).run Tryd.prog w = .ok (.enter 18 args) w := enters_of Tryd.func18 (by kernel_rfl) rfl

theorem en_19 : ∀ args w, (callFunc 19 args).run Tryd.prog w = .ok (.enter 19 args) w := enters_of Tryd.func19 (by kernel_rfl) rfl

theorem en_20 : ∀ args w, (callFunc 20 args).run Tryd.prog w = .ok (.enter 20 args) w := enters_of Tryd.func20 (by kernel_rfl) rfl

theorem en_21 : ∀ args w, (callFunc 21 args).run Tryd.prog w = .ok (.enter 21 args) w := enters_of Tryd.func21 (by kernel_rfl) rfl

theorem en_27 : ∀ args w, (callFunc 27 args).run Tryd.prog w = .ok (.enter 27 args) w := enters_of Tryd.func27 (by kernel_rfl) rfl

theorem en_28 : ∀ args w, (callFunc 28 args).run Tryd.prog w = .ok (.enter 28 args) w := enters_of Tryd.func28 (by kernel_rfl) rfl

theorem en_35 : ∀ args w, (callFunc 35 args).run Tryd.prog w = .ok (.enter 35 args) w := enters_of Tryd.func35 (by kernel_rfl) rfl

theorem en_36 : ∀ args w, (callFunc 36 args).run Tryd.prog w = .ok (.enter 36 args) w := enters_of Tryd.func36 (by kernel_rfl) rfl

theorem en_37 : ∀ args w, (callFunc 37 args).run Tryd.prog w = .ok (.enter 37 args) w := enters_of Tryd.func37 (by kernel_rfl) rfl

theorem en_40 : ∀ args w, (callFunc 40 args).run Tryd.prog w = .ok (.enter 40 args) w := enters_of Tryd.func40 (by kernel_rfl) rfl

theorem en_41 : ∀ args w, (callFunc 41 args).run Tryd.prog w = .ok (.enter 41 args) w := enters_of Tryd.func41 (by kernel_rfl) rfl

theorem en_42 : ∀ args w, (callFunc 42 args).run Tryd.prog w = .ok (.enter 42 args) w := enters_of Tryd.func42 (by kernel_rfl) rfl

theorem en_45 : ∀ args w, (callFunc 45 args).run Tryd.prog w = .ok (.enter 45 args) w := enters_of Tryd.func45 (by kernel_rfl) rfl

theorem en_53 : ∀ args w, (callFunc 53 args).run Tryd.prog w = .ok (.enter 53 args) w := enters_of Tryd.func53 (by kernel_rfl) rfl

theorem en_54 : ∀ args w, (callFunc 54 args).run Tryd.prog w = .ok (.enter 54 args) w := enters_of Tryd.func54 (by kernel_rfl) rfl

theorem en_55 : ∀ args w, (callFunc 55 args).run Tryd.prog w = .ok (.enter 55 args) w := enters_of Tryd.func55 (by kernel_rfl) rfl

theorem en_59 : ∀ args w, (callFunc 59 args).run Tryd.prog w = .ok (.enter 59 args) w := enters_of Tryd.func59 (by kernel_rfl) rfl

theorem en_60 : ∀ args w, (callFunc 60 args).run Tryd.prog w = .ok (.enter 60 args) w := enters_of Tryd.func60 (by kernel_rfl) rfl

theorem en_61 : ∀ args w, (callFunc 61 args).run Tryd.prog w = .ok (.enter 61 args) w := enters_of Tryd.func61 (by kernel_rfl) rfl

theorem en_62 : ∀ args w, (callFunc 62 args).run Tryd.prog w = .ok (.enter 62 args) w := enters_of Tryd.func62 (by kernel_rfl) rfl

theorem en_63 : ∀ args w, (callFunc 63 args).run Tryd.prog w = .ok (.enter 63 args) w := enters_of Tryd.func63 (by kernel_rfl) rfl

theorem en_64 : ∀ args w, (callFunc 64 args).run Tryd.prog w = .ok (.enter 64 args) w := enters_of Tryd.func64 (by kernel_rfl) rfl

theorem en_75 : ∀ args w, (callFunc 75 args).run Tryd.prog w = .ok (.enter 75 args) w := enters_of Tryd.func75 (by kernel_rfl) rfl

theorem en_78 : ∀ args w, (callFunc 78 args).run Tryd.prog w = .ok (.enter 78 args) w := enters_of Tryd.func78 (by kernel_rfl) rfl

theorem hmix : Tryd.prog.follows .mixedOrders = true := by kernel_rfl

def isReg (r : Int) : Bool := withinB r 0 23

def validInstr (x : tInstr) (n : Int) : Bool :=
  isReg x.2.1 && withinB x.2.2.1 0 n && (if x.1 = 0 then x.2.2.2 == 0 else if x.1 = 1 then withinB x.2.2.2 0 n else false)

theorem impl_isRegister (r : Int) (w : World) : Calls Tryd.prog 102 #[.int .i64 r] w fun e w' => e = .returned (.bool (isReg r)) ∧ w = w' := by
  unfold isReg
  go_enter Tryd.func102, Tryd.ntmps102
  go_wp2_with (go_at_call 24; refine (impl_within _ _ _ _).mono ?_; rintro e w' ⟨rfl, rfl⟩)
  go_ret
  exact ⟨rfl, rfl⟩

theorem spec_l07Register (r : Int) (w : World) : Calls Tryd.prog 79 #[.int .i64 r] w fun e w' => e = .returned (.bool (isReg r)) ∧ w = w' := by
  unfold isReg
  go_enter Tryd.func79, Tryd.ntmps79
  go_wp2_with (go_at_call 22; refine (spec_l00In _ _ _ _).mono ?_; rintro e w' ⟨rfl, rfl⟩)
  go_ret
  exact ⟨rfl, rfl⟩

set_option maxHeartbeats 400000 in
theorem impl_validInstr (x : tInstr) (n : Int) (w : World) :
    Calls Tryd.prog 83 #[.agg #[.int .i64 x.1, .int .i64 x.2.1, .int .i64 x.2.2.1, .int .i64 x.2.2.2], .int .i64 n] w fun e w' => e = .returned (.bool (validInstr x n)) ∧ Below w.heap.size w w' := by
  obtain ⟨kd, r, t, el⟩ := x
  cases h1 : isReg r
  · rw [show validInstr (kd, r, t, el) n = false from by unfold validInstr; simp [h1]]
    go_enter Tryd.func83, Tryd.ntmps83
    go_wp2_with (first | (go_at_call 102; refine (impl_isRegister _ _).mono ?_; rintro e w' ⟨rfl, rfl⟩; rw [h1]) | (go_at_call 24; refine (impl_within _ _ _ _).mono ?_; rintro e w' ⟨rfl, rfl⟩; (try rw [h2])))
    go_ret
    exact ⟨rfl, by go_grown⟩
  cases h2 : withinB t 0 n
  · rw [show validInstr (kd, r, t, el) n = false from by unfold validInstr; simp [h1, h2]]
    go_enter Tryd.func83, Tryd.ntmps83
    go_wp2_with (first | (go_at_call 102; refine (impl_isRegister _ _).mono ?_; rintro e w' ⟨rfl, rfl⟩; rw [h1]) | (go_at_call 24; refine (impl_within _ _ _ _).mono ?_; rintro e w' ⟨rfl, rfl⟩; (try rw [h2])))
    go_ret
    exact ⟨rfl, by go_grown⟩
  by_cases k0 : kd = 0
  · have k0' : (kd == 0) = true := by simp [k0]
    rw [show validInstr (kd, r, t, el) n = (el == 0) from by unfold validInstr; simp [h1, h2, k0]]
    go_enter Tryd.func83, Tryd.ntmps83
    go_wp2_with (first | (go_at_call 102; refine (impl_isRegister _ _).mono ?_; rintro e w' ⟨rfl, rfl⟩; rw [h1]) | (go_at_call 24; refine (impl_within _ _ _ _).mono ?_; rintro e w' ⟨rfl, rfl⟩; (try rw [h2])))
    go_ret
    exact ⟨rfl, by go_grown⟩
  have k0' : (kd == 0) = false := by simp [k0]
  by_cases k1 : kd = 1
  · have k1' : (kd == 1) = true := by simp [k1]
    rw [show validInstr (kd, r, t, el) n = withinB el 0 n from by unfold validInstr; simp [h1, h2, k1]]
    go_enter Tryd.func83, Tryd.ntmps83
    go_wp2_with (first | (go_at_call 102; refine (impl_isRegister _ _).mono ?_; rintro e w' ⟨rfl, rfl⟩; rw [h1]) | (go_at_call 24; refine (impl_within _ _ _ _).mono ?_; rintro e w' ⟨rfl, rfl⟩; (try rw [h2])))
    go_ret
    exact ⟨rfl, by go_grown⟩
  have k1' : (kd == 1) = false := by simp [k1]
  rw [show validInstr (kd, r, t, el) n = false from by unfold validInstr; simp [h1, h2, k0, k1]]
  go_enter Tryd.func83, Tryd.ntmps83
  go_wp2_with (first | (go_at_call 102; refine (impl_isRegister _ _).mono ?_; rintro e w' ⟨rfl, rfl⟩; rw [h1]) | (go_at_call 24; refine (impl_within _ _ _ _).mono ?_; rintro e w' ⟨rfl, rfl⟩; (try rw [h2])))
  go_ret
  exact ⟨rfl, by go_grown⟩

theorem enters_ValidProgram1 : ∀ args w, (callFunc 82 args).run Tryd.prog w = .ok (.enter 82 args) w := enters_of Tryd.func82 (by kernel_rfl) rfl

theorem impl_ValidProgram1 (es : List Value) (x : tInstr) (w : World) (h : eInstr.R w (Old w) es x) (B : Nat) (A : Option Addr) (n c : Nat) (hB : w.cell? ⟨B, 0, none⟩ = some (.slice A n c)) :
    Calls Tryd.prog 82 #[.agg es.toArray, .pointer (some ⟨B, 0, none⟩)] w fun e w' => e = .returned (.bool (!validInstr x n)) ∧ Below w.heap.size w w' := by
  obtain ⟨rfl, _, _, _, _⟩ := shape_Instr h
  clear h
  have hlt : B < w.heap.size := World.block_lt_of_cell? w _ hB
  go_enter Tryd.func82, Tryd.ntmps82
  go_wp2_with fail
  go_region_held3 (fun w' => w'.cell? ⟨w.heap.size, 0, none⟩ = some (.int .i64 x.1) ∧ w'.cell? ⟨w.heap.size, 1, none⟩ = some (.int .i64 x.2.1) ∧ w'.cell? ⟨w.heap.size, 2, none⟩ = some (.int .i64 x.2.2.1) ∧ w'.cell? ⟨w.heap.size, 3, none⟩ = some (.int .i64 x.2.2.2) ∧ w'.cell? ⟨B, 0, none⟩ = some (.slice A n c)) (first | (simp [go_sem, World.cell?_alloc_past, hB, hlt]; done) | (obtain ⟨hc, hf⟩ := bcell hb; simp [hc, go_sem, World.cell?_alloc_past, hB, hlt, Nat.lt_succ_of_lt hlt]))
    (first
      | (go_at_call 84; refine (impl_size_Instr _ _ _ _).mono ?_; rintro e w' ⟨rfl, rfl⟩)
      | (go_at_call 83; refine (impl_validInstr x _ _).mono ?_; rintro e w' ⟨rfl, hb⟩))
  go_wp2
  go_ret
  exact ⟨rfl, below_trans ((Below.refl _ _).alloc (Nat.le_refl _) _).drew hb⟩

def validProg (p : List tInstr) : Bool := decide (p.length ≤ 400) && !p.any fun x => !validInstr x p.length

set_option maxHeartbeats 400000 in
theorem impl_ValidProgram (A : Option Addr) (c : Nat) (xs : List tInstr) (w : World) (h : Sl eInstr w (Old w) A c xs) :
    Calls Tryd.prog 63 #[.slice A xs.length c] w fun e w' => e = .returned (.bool (validProg xs)) ∧ Below w.heap.size w w' := by
  have hW : Below w.heap.size w (w.alloc (.cells #[.slice A xs.length c] 36)) := (Below.refl _ _).alloc (Nat.le_refl _) _
  have hI := Lib.hid (ContainsFunc_Instr (fun x => !validInstr x xs.length) 82 #[.pointer (some ⟨w.heap.size, 0, none⟩)] A c xs _ (h.on hW) enters_ValidProgram1 (fun W x es _ hb hR => impl_ValidProgram1 es x W hR w.heap.size A xs.length c (by
    rw [hb.cell (p := ⟨w.heap.size, 0, none⟩) (by simp)]; simp [go_sem])))
  have HW := Lib.hid hW; clear hW h
  by_cases h1 : xs.length ≤ 400
  · have h1' : decide ((xs.length : Int) ≤ 400) = true := by simp; omega
    rw [show validProg xs = !xs.any (fun x => !validInstr x xs.length) from by unfold validProg; simp [h1]]
    go_enter Tryd.func63, Tryd.ntmps63
    go_wp2_with (go_at_call 81; refine hI.out.mono ?_; rintro e w' ⟨rfl, hb⟩)
    go_ret
    exact ⟨rfl, below_trans HW.out hb⟩
  · have h1' : decide ((xs.length : Int) ≤ 400) = false := by simp; omega
    rw [show validProg xs = false from by unfold validProg; simp [h1]]
    go_enter Tryd.func63, Tryd.ntmps63
    go_wp2_with fail
    go_ret
    exact ⟨rfl, HW.out⟩

theorem validInstr_eq (kd r t el : Int) (n : Nat) : validInstr (kd, r, t, el) n = (isReg r && withinB t 0 n && ((kd == 0 || kd == 1) && (kd != 0 || el == 0) && withinB el 0 n)) := by
  unfold validInstr
  by_cases k0 : kd = 0
  · subst k0
    by_cases e0 : el = 0
    · subst e0; simp [withinB]
    · have e0' : (el == 0) = false := by simp [e0]
      simp [e0']
  · by_cases k1 : kd = 1
    · subst k1; simp
    · simp [k0, k1]

def badProg (p : List tInstr) (x : tInstr) : Bool := !validInstr x p.length

theorem validProg_eq (p : List tInstr) : validProg p = (!p.any (badProg p) && decide (p.length ≤ 400)) := by
  unfold validProg badProg; rw [Bool.and_comm]

set_option maxHeartbeats 1000000 in
theorem spec_l07Is (A : Option Addr) (c : Nat) (xs : List tInstr) (w : World) (h : Sl eInstr w (Old w) A c xs) :
    Calls Tryd.prog 61 #[.slice A xs.length c] w fun e w' => e = .returned (.bool (validProg xs)) ∧ Below w.heap.size w w' := by
  have hlen := h.len
  have H := Lib.hid h; clear h
  have HV := Lib.hid (validProg_eq xs)
  go_enter Tryd.func61, Tryd.ntmps61
  go_wp2
  go_loopw [4] (fun s4 wr => ∃ k : Nat, k ≤ xs.length ∧ s4 = .int .i64 k ∧ Hid ((xs.take k).any (badProg xs) = false) ∧ Hid (Below w.heap.size w wr)) (fun s4 _ => xs.length - (intOf s4).toNat)
  case atStart => exact ⟨0, Nat.zero_le _, rfl, rfl, Below.refl _ w⟩
  case round =>
    obtain ⟨k, hk, rfl, HN, BW⟩ := hrel
    by_cases hlt : k < xs.length
    · have hltz : (k : Int) < (xs.length : Int) := by omega
      obtain ⟨b, off, es, rfl, hb, hR, hc⟩ := H.out.at hlt
      obtain ⟨rfl, _, _, _, _⟩ := shape_Instr hR
      have d0 : wr.cell? ⟨b, off + k * 4, none⟩ = some (.int .i64 xs[k].1) := (below_olds BW.out _ hb).trans (hc 0 _ rfl)
      have d1 : wr.cell? ⟨b, off + k * 4 + 1, none⟩ = some (.int .i64 xs[k].2.1) := (below_olds BW.out _ hb).trans (hc 1 _ rfl)
      have d2 : wr.cell? ⟨b, off + k * 4 + 2, none⟩ = some (.int .i64 xs[k].2.2.1) := (below_olds BW.out _ hb).trans (hc 2 _ rfl)
      have d3 : wr.cell? ⟨b, off + k * 4 + 3, none⟩ = some (.int .i64 xs[k].2.2.2) := (below_olds BW.out _ hb).trans (hc 3 _ rfl)
      clear hc hR
      have HT : Hid (badProg xs xs[k] = true → validProg xs = false) := fun e => by rw [HV.out, any_hit hlt e]; rfl
      have HS : Hid (badProg xs xs[k] = false → (xs.take (k + 1)).any (badProg xs) = false) := fun e => any_step hlt HN.out e
      generalize xs[k] = y at d0 d1 d2 d3 HT HS
      obtain ⟨kd, r, t, el⟩ := y
      have HE : Hid (badProg xs (kd, r, t, el) = !(isReg r && withinB t 0 xs.length && ((kd == 0 || kd == 1) && (kd != 0 || el == 0) && withinB el 0 xs.length))) := by show _ = _; unfold badProg; rw [validInstr_eq]
      have HBW : Hid (∀ o, Below w.heap.size w (wr.alloc o)) := fun o => below_alloc BW.out o
      cases q1 : isReg r
      · go_wp2_with (go_at_call 79; refine (spec_l07Register _ _).mono ?_; rintro e w' ⟨rfl, rfl⟩; rw [q1])
        go_ret
        exact ⟨by rw [HT.out (by rw [HE.out, q1]; simp)]; rfl, HBW.out _⟩
      cases q2 : withinB t 0 xs.length
      · go_wp2_with (first | (go_at_call 79; refine (spec_l07Register _ _).mono ?_; rintro e w' ⟨rfl, rfl⟩; rw [q1]) | (go_at_call 22; refine (spec_l00In _ _ _ _).mono ?_; rintro e w' ⟨rfl, rfl⟩; rw [q2]))
        go_ret
        exact ⟨by rw [HT.out (by rw [HE.out, q2]; simp)]; rfl, HBW.out _⟩
      by_cases k0 : kd = 0
      · subst k0
        by_cases e0 : el = 0
        · subst e0
          cases q3 : withinB 0 0 xs.length
          · exfalso; simp [withinB] at q3
          have hF := HS.out (by rw [HE.out, q1, q2, q3]; simp)
          have HF := Lib.hid hF; clear hF
          go_wp2_with (first | (go_at_call 79; refine (spec_l07Register _ _).mono ?_; rintro e w' ⟨rfl, rfl⟩; rw [q1]) | (go_at_call 22; refine (spec_l00In _ _ _ _).mono ?_; rintro e w' ⟨rfl, rfl⟩; first | rw [q2] | rw [q3]))
          go_roundw
          case rel => exact ⟨k + 1, by omega, by go_num, HF.out, HBW.out _⟩
          case measure => simp [intOf]; omega
        · have e0' : (el != 0) = true := by simp [e0]
          have hF := HT.out (by rw [HE.out]; simp [e0])
          have HF := Lib.hid hF; clear hF
          go_wp2_with (first | (go_at_call 79; refine (spec_l07Register _ _).mono ?_; rintro e w' ⟨rfl, rfl⟩; rw [q1]) | (go_at_call 22; refine (spec_l00In _ _ _ _).mono ?_; rintro e w' ⟨rfl, rfl⟩; rw [q2]))
          go_ret
          exact ⟨by rw [HF.out]; rfl, HBW.out _⟩
      have k0a : (kd != 0) = true := by simp [k0]
      have k0b : (kd == 0) = false := by simp [k0]
      by_cases k1 : kd = 1
      · subst k1
        cases q3 : withinB el 0 xs.length
        · have hF := HT.out (by rw [HE.out, q3]; simp)
          have HF := Lib.hid hF; clear hF
          go_wp2_with (first | (go_at_call 79; refine (spec_l07Register _ _).mono ?_; rintro e w' ⟨rfl, rfl⟩; rw [q1]) | (go_at_call 22; refine (spec_l00In _ _ _ _).mono ?_; rintro e w' ⟨rfl, rfl⟩; first | rw [q2] | rw [q3]))
          go_ret
          exact ⟨by rw [HF.out]; rfl, HBW.out _⟩
        · have hF := HS.out (by rw [HE.out, q1, q2, q3]; simp)
          have HF := Lib.hid hF; clear hF
          go_wp2_with (first | (go_at_call 79; refine (spec_l07Register _ _).mono ?_; rintro e w' ⟨rfl, rfl⟩; rw [q1]) | (go_at_call 22; refine (spec_l00In _ _ _ _).mono ?_; rintro e w' ⟨rfl, rfl⟩; first | rw [q2] | rw [q3]))
          go_roundw
          case rel => exact ⟨k + 1, by omega, by go_num, HF.out, HBW.out _⟩
          case measure => simp [intOf]; omega
      have k1a : (kd != 1) = true := by simp [k1]
      have hF := HT.out (by rw [HE.out]; simp [k0, k1])
      have HF := Lib.hid hF; clear hF
      go_wp2_with (first | (go_at_call 79; refine (spec_l07Register _ _).mono ?_; rintro e w' ⟨rfl, rfl⟩; rw [q1]) | (go_at_call 22; refine (spec_l00In _ _ _ _).mono ?_; rintro e w' ⟨rfl, rfl⟩; rw [q2]))
      go_ret
      exact ⟨by rw [HF.out]; rfl, HBW.out _⟩
    · have hltz : ¬ (k : Int) < (xs.length : Int) := by omega
      obtain rfl : k = xs.length := by omega
      go_wp2
      go_ret
      have hn := HN.out
      rw [List.take_length] at hn
      exact ⟨ret_bool (by rw [HV.out, hn]; simp; omega), BW.out⟩

theorem validProg_reg {p : List tInstr} (h : validProg p = true) : ∀ i ∈ p, 0 ≤ i.2.1 ∧ i.2.1 ≤ 23 := by
  intro i hi
  unfold validProg at h
  simp at h
  have h1 := h.2 i.1 i.2.1 i.2.2.1 i.2.2.2 hi
  unfold validInstr isReg at h1
  simp only [Bool.and_eq_true] at h1
  have h2 := withinB_true.1 h1.1.1
  exact ⟨h2.1, h2.2⟩

theorem validProg_to {p : List tInstr} (h : validProg p = true) : ∀ i ∈ p, (0 ≤ i.2.2.1 ∧ i.2.2.1 ≤ p.length) ∧ (0 ≤ i.2.2.2 ∧ i.2.2.2 ≤ p.length) := by
  intro i hi
  unfold validProg at h
  simp at h
  have h1 := h.2 i.1 i.2.1 i.2.2.1 i.2.2.2 hi
  unfold validInstr at h1
  simp only [Bool.and_eq_true] at h1
  refine ⟨withinB_true.1 h1.1.2, ?_⟩
  have h3 := h1.2
  split at h3
  · simp at h3; omega
  · split at h3
    · exact withinB_true.1 h3
    · simp at h3

def okP (p : List tInstr) : Prop := p.length ≤ 400 ∧ ∀ x ∈ p, (x.1 = 0 ∨ x.1 = 1) ∧ (0 ≤ x.2.2.1 ∧ x.2.2.1 ≤ 400) ∧ 0 ≤ x.2.2.2 ∧ x.2.2.2 ≤ 400

theorem validProg_okP {p : List tInstr} (h : validProg p = true) : okP p := by
  have hl : p.length ≤ 400 := by
    unfold validProg at h
    simp at h
    omega
  refine ⟨hl, fun x hx => ?_⟩
  have h2 := validProg_to h x hx
  refine ⟨?_, by omega, by omega, by omega⟩
  unfold validProg at h
  simp at h
  have h1 := h.2 x.1 x.2.1 x.2.2.1 x.2.2.2 hx
  unfold validInstr at h1
  simp only [Bool.and_eq_true] at h1
  have h3 := h1.2
  split at h3
  · rename_i q; exact .inl (by simpa using q)
  · split at h3
    · rename_i q; exact .inr (by simpa using q)
    · simp at h3

/-- The library's table that the decimal forms are made with. -/
def Glob (w : World) : Prop := Lib.TabIs Tryd.prog w "internal/strconv.uint64pow10" .u64 Lib.pow10Tab

theorem globNum : Tryd.prog.globalNamed "internal/strconv.uint64pow10" = some 5 := by kernel_rfl

theorem Held.glob {w0 w : World} {rs : List Res} (h : Held Nob w0 rs w) (hG : Glob w0) : Glob w := tab_below globNum hG h.below

theorem grow_below (w : World) (k : Nat) (os : Array Obj) : Below w.heap.size w (Go.Sort.grow (w.drewN k) os) :=
  ⟨rfl, rfl, rfl, by show w.heap.size ≤ (w.heap ++ os).size; rw [Array.size_append]; omega, fun b hb => Go.Sort.heap_grow_old (w.drewN k) os hb⟩

def shelf_M173_ren : Go.Shelf.Ren := ⟨fun | 173 => 75 | 246 => 99 | 283 => 112 | 284 => 113 | 285 => 114 | 286 => 115 | 129 => 118 | 317 => 117 | 318 => 119 | 319 => 120 | 320 => 121 | 337 => 122 | 338 => 123 | n => n, fun | 2 => 2 | 3 => 3 | 9 => 9 | 4 => 4 | 171 => 141 | 0 => 0 | 53 => 117 | 37 => 92 | 5 => 5 | 173 => 144 | 212 => 150 | 51 => 132 | 20 => 20 | 213 => 151 | 46 => 115 | 232 => 155 | 233 => 156 | n => n, fun | 17 => 5 | 18 => 6 | 19 => 7 | n => n⟩

theorem shelf_M173 : Go.Proofs.LaysM.n173 Tryd.prog shelf_M173_ren := {
  mixed := by kernel_rfl
  f129 := Tryd.func118.trans (congrArg some (by kernel_rfl))
  f173 := Tryd.func75.trans (congrArg some (by kernel_rfl))
  f246 := Tryd.func99.trans (congrArg some (by kernel_rfl))
  f283 := Tryd.func112.trans (congrArg some (by kernel_rfl))
  f284 := Tryd.func113.trans (congrArg some (by kernel_rfl))
  f285 := Tryd.func114.trans (congrArg some (by kernel_rfl))
  f286 := Tryd.func115.trans (congrArg some (by kernel_rfl))
  f317 := Tryd.func117.trans (congrArg some (by kernel_rfl))
  f318 := Tryd.func119.trans (congrArg some (by kernel_rfl))
  f319 := Tryd.func120.trans (congrArg some (by kernel_rfl))
  f320 := Tryd.func121.trans (congrArg some (by kernel_rfl))
  f337 := Tryd.func122.trans (congrArg some (by kernel_rfl))
  f338 := Tryd.func123.trans (congrArg some (by kernel_rfl))
  t0 := Tryd.underlying0
  a0 := Tryd.isAgg0
  z0 := Tryd.sizeOf0
  v0 := Tryd.zeroValue0
  t2 := Tryd.underlying2
  a2 := Tryd.isAgg2
  z2 := Tryd.sizeOf2
  v2 := Tryd.zeroValue2
  t3 := Tryd.underlying3
  a3 := Tryd.isAgg3
  z3 := Tryd.sizeOf3
  v3 := Tryd.zeroValue3
  t4 := Tryd.underlying4
  a4 := Tryd.isAgg4
  z4 := Tryd.sizeOf4
  v4 := Tryd.zeroValue4
  t5 := Tryd.underlying5
  a5 := Tryd.isAgg5
  z5 := Tryd.sizeOf5
  v5 := Tryd.zeroValue5
  t9 := Tryd.underlying9
  a9 := Tryd.isAgg9
  z9 := Tryd.sizeOf9
  v9 := Tryd.zeroValue9
  t20 := Tryd.underlying20
  a20 := Tryd.isAgg20
  z20 := Tryd.sizeOf20
  v20 := Tryd.zeroValue20
  t37 := Tryd.underlying92
  a37 := Tryd.isAgg92
  z37 := Tryd.sizeOf92
  v37 := Tryd.zeroValue92
  t46 := Tryd.underlying115
  a46 := Tryd.isAgg115
  z46 := Tryd.sizeOf115
  v46 := Tryd.zeroValue115
  t51 := Tryd.underlying132
  a51 := Tryd.isAgg132
  z51 := Tryd.sizeOf132
  v51 := Tryd.zeroValue132
  t53 := Tryd.underlying117
  a53 := Tryd.isAgg117
  z53 := Tryd.sizeOf117
  v53 := Tryd.zeroValue117
  t171 := Tryd.underlying141
  a171 := Tryd.isAgg141
  z171 := Tryd.sizeOf141
  v171 := Tryd.zeroValue141
  t173 := Tryd.underlying144
  a173 := Tryd.isAgg144
  z173 := Tryd.sizeOf144
  v173 := Tryd.zeroValue144
  t212 := Tryd.underlying150
  a212 := Tryd.isAgg150
  z212 := Tryd.sizeOf150
  v212 := Tryd.zeroValue150
  t213 := Tryd.underlying151
  a213 := Tryd.isAgg151
  z213 := Tryd.sizeOf151
  t232 := Tryd.underlying155
  a232 := Tryd.isAgg155
  z232 := Tryd.sizeOf155
  v232 := Tryd.zeroValue155
  t233 := Tryd.underlying156
  a233 := Tryd.isAgg156
  z233 := Tryd.sizeOf156
  v233 := Tryd.zeroValue156
  g17 := by kernel_rfl
  g18 := by kernel_rfl
  g19 := by kernel_rfl
  i0 := by kernel_rfl
  i2 := by kernel_rfl
  i3 := by kernel_rfl
  i4 := by kernel_rfl
  i5 := by kernel_rfl
  i9 := by kernel_rfl
  i20 := by kernel_rfl
  i37 := by kernel_rfl
  i46 := by kernel_rfl
  i51 := by kernel_rfl
  i53 := by kernel_rfl
  i171 := by kernel_rfl
  i173 := by kernel_rfl
  i212 := by kernel_rfl
  i232 := by kernel_rfl
  i233 := by kernel_rfl
  m17 := by kernel_rfl
  m18 := by kernel_rfl
  m19 := by kernel_rfl }

def shelf_156_ren : Go.Shelf.Ren := ⟨fun | 156 => 59 | 165 => 66 | 166 => 68 | 169 => 70 | 240 => 87 | 241 => 88 | 276 => 103 | 277 => 104 | n => n, fun | 31 => 43 | 9 => 9 | 3 => 3 | 4 => 4 | 0 => 0 | 20 => 20 | 72 => 94 | 76 => 96 | 70 => 91 | 37 => 92 | 75 => 76 | 127 => 113 | 164 => 125 | 5 => 5 | 80 => 100 | n => n, fun | n => n⟩

theorem shelf_156 : Go.Proofs.Lays.n156 Tryd.prog shelf_156_ren := {
  mixed := by kernel_rfl
  f156 := Tryd.func59.trans (congrArg some (by kernel_rfl))
  f165 := Tryd.func66.trans (congrArg some (by kernel_rfl))
  f166 := Tryd.func68.trans (congrArg some (by kernel_rfl))
  f169 := Tryd.func70.trans (congrArg some (by kernel_rfl))
  f240 := Tryd.func87.trans (congrArg some (by kernel_rfl))
  f241 := Tryd.func88.trans (congrArg some (by kernel_rfl))
  f276 := Tryd.func103.trans (congrArg some (by kernel_rfl))
  f277 := Tryd.func104.trans (congrArg some (by kernel_rfl))
  t0 := Tryd.underlying0
  a0 := Tryd.isAgg0
  z0 := Tryd.sizeOf0
  v0 := Tryd.zeroValue0
  t3 := Tryd.underlying3
  a3 := Tryd.isAgg3
  z3 := Tryd.sizeOf3
  v3 := Tryd.zeroValue3
  t4 := Tryd.underlying4
  a4 := Tryd.isAgg4
  z4 := Tryd.sizeOf4
  v4 := Tryd.zeroValue4
  t9 := Tryd.underlying9
  a9 := Tryd.isAgg9
  z9 := Tryd.sizeOf9
  v9 := Tryd.zeroValue9
  t20 := Tryd.underlying20
  a20 := Tryd.isAgg20
  z20 := Tryd.sizeOf20
  v20 := Tryd.zeroValue20
  t31 := Tryd.underlying43
  a31 := Tryd.isAgg43
  z31 := Tryd.sizeOf43
  v31 := Tryd.zeroValue43
  t37 := Tryd.underlying92
  a37 := Tryd.isAgg92
  z37 := Tryd.sizeOf92
  v37 := Tryd.zeroValue92
  t70 := Tryd.underlying91
  a70 := Tryd.isAgg91
  z70 := Tryd.sizeOf91
  v70 := Tryd.zeroValue91
  t72 := Tryd.underlying94
  a72 := Tryd.isAgg94
  z72 := Tryd.sizeOf94
  v72 := Tryd.zeroValue94
  t75 := Tryd.underlying76
  a75 := Tryd.isAgg76
  z75 := Tryd.sizeOf76
  v75 := Tryd.zeroValue76
  t76 := Tryd.underlying96
  a76 := Tryd.isAgg96
  z76 := Tryd.sizeOf96
  v76 := Tryd.zeroValue96
  t127 := Tryd.underlying113
  a127 := Tryd.isAgg113
  z127 := Tryd.sizeOf113
  v127 := Tryd.zeroValue113
  t164 := Tryd.underlying125
  a164 := Tryd.isAgg125
  z164 := Tryd.sizeOf125
  v164 := Tryd.zeroValue125 }

theorem shelf_X_Builder_Extra_156 : Builder.Extra Tryd.prog shelf_156_ren where
  sizeBuilder := by kernel_rfl
  liesBuilder := by kernel_rfl
  t5 := Tryd.underlying5
  a5 := Tryd.isAgg5
  z5 := Tryd.sizeOf5
  v5 := Tryd.zeroValue5
  infoByte := by kernel_rfl
  cellsByte := by kernel_rfl
  sizeByte := by kernel_rfl
  neB5 := by decide

theorem FormatInt_10 (a0 a1 : Int) (w : World) (hG : Glob w) (s0 : -9223372036854775808 ≤ a0 ∧ a0 ≤ 9223372036854775807) (s1 : a1 = 10) :
    Calls Tryd.prog 75 #[.int .i64 a0, .int .i64 a1] w fun e w' => e = .returned (.string (bs (Go.Lib.itoa a0))) ∧ Below w.heap.size w w' := by
  subst s1
  refine (show Calls Tryd.prog 75 #[.int .i64 a0, .int .i64 10] w _ from Any.strconv_FormatInt_10 shelf_M173 a0 s0.1 s0.2 w hG).mono ?_
  rintro e w' ⟨rfl, k, os, rfl⟩
  exact ⟨rfl, grow_below _ _ _⟩

theorem map_bs (xs : List (List UInt8)) : (xs.map bs).map (fun x : ByteArray => x.data.toList) = xs := by
  rw [List.map_map]
  exact (List.map_congr_left fun x _ => by simp [bs]).trans (List.map_id xs)

theorem Join_Str (A : Option Addr) (c : Nat) (a0 : List (List UInt8)) (a1 : List UInt8) (w : World) (h0 : Sl eTxt w (Old w) A c a0) (s0 : a0.length ≤ 1000000000) (s1 : (Go.Lib.join a0 a1).length ≤ 1000000000) :
    Calls Tryd.prog 59 #[.slice A a0.length c, .string (bs a1)] w fun e w' => e = .returned (.string (bs (Go.Lib.join a0 a1))) ∧ Below w.heap.size w w' := by
  by_cases hx : a0 = []
  · subst hx
    refine (show Calls Tryd.prog 59 #[.slice A 0 c, .string (bs a1)] w _ from Any.strings_Join_none shelf_156 shelf_X_Builder_Extra_156 A c (bs a1) w).mono ?_
    rintro e w' ⟨rfl, rfl⟩
    exact ⟨rfl, Below.refl _ _⟩
  · obtain ⟨b, off, rfl, hb, hc⟩ := h0.2.2 hx
    have hl : a0.length = (a0.map bs).length := (List.length_map _).symm
    have hj : Go.Lib.join ((a0.map bs).map (·.data.toList)) (bs a1).data.toList = Go.Lib.join a0 a1 := by rw [map_bs]
    rw [hl]
    refine (show Calls Tryd.prog 59 #[.slice (some ⟨b, off, none⟩) (a0.map bs).length c, .string (bs a1)] w _ from Any.strings_Join shelf_156 shelf_X_Builder_Extra_156 b off c (a0.map bs) (bs a1) w ?_ hb (by rw [← hl]; omega) (by rw [← hl]; exact h0.1) (by rw [hj]; omega)).mono ?_
    · intro j x hjx
      rw [List.getElem?_map, Option.map_eq_some_iff] at hjx
      obtain ⟨y, hy, rfl⟩ := hjx
      obtain ⟨es, ⟨rfl, _⟩, h2⟩ := hc j y hy
      have := h2 0 _ rfl
      rwa [show off + j * eTxt.size + 0 = off + j from by simp [eTxt]] at this
    · rintro e w' ⟨rfl, h2⟩
      rw [hj]
      exact ⟨rfl, h2⟩

theorem nDigits_le (k : Nat) : ∀ n : Nat, n < 10 ^ (k + 1) → Go.Lib.nDigits n ≤ k + 1 := by
  induction k with
  | zero => intro n h; rw [Go.Lib.nDigits_small (by simpa using h)]; omega
  | succ k ih =>
    intro n h
    by_cases h1 : n < 10
    · rw [Go.Lib.nDigits_small h1]; omega
    · rw [Go.Lib.nDigits_big h1]; have := ih (n / 10) (by rw [Nat.pow_succ] at h; omega); omega

theorem itoa_len {n : Int} (h : -9223372036854775808 ≤ n ∧ n ≤ 9223372036854775807) : 1 ≤ (Go.Lib.itoa n).length ∧ (Go.Lib.itoa n).length ≤ 20 := by
  unfold Go.Lib.itoa
  split
  · have h1 := nDigits_le 18 n.natAbs (by omega)
    have h2 := Go.Lib.nDigits_pos n.natAbs
    rw [List.length_cons, Go.Lib.decDigits_length]; omega
  · have h1 := nDigits_le 18 n.toNat (by omega)
    have h2 := Go.Lib.nDigits_pos n.toNat
    rw [Go.Lib.decDigits_length]; omega

theorem join_len (B : Nat) (sep : List UInt8) : ∀ xs : List (List UInt8), (∀ x ∈ xs, x.length ≤ B) → (Go.Lib.join xs sep).length ≤ xs.length * (B + sep.length)
  | [], _ => by simp [Go.Lib.join_nil]
  | x :: r, h => by
    have h1 := h x (by simp)
    have h2 : Go.Lib.lens r ≤ r.length * B := by
      have h3 : ∀ y ∈ r, y.length ≤ B := fun y hy => h y (by simp [hy])
      clear h
      induction r with
      | nil => simp [Go.Lib.lens]
      | cons y r ih =>
        have h4 := ih fun z hz => h3 z (by simp [hz])
        have h5 := h3 y (by simp)
        simp only [Go.Lib.lens, List.map_cons, List.sum_cons, List.length_cons, Nat.succ_mul] at h4 ⊢
        omega
    rw [Go.Lib.join_length, List.length_cons, Nat.succ_mul]
    simp only [Go.Lib.lens, List.map_cons, List.sum_cons] at h2 ⊢
    have h6 : sep.length * r.length = r.length * sep.length := Nat.mul_comm _ _
    have h7 : r.length * (B + sep.length) = r.length * B + r.length * sep.length := Nat.mul_add _ _ _
    omega

theorem Sl.i64 {w : World} {S : Nat → Prop} {A : Option Addr} {c : Nat} {xs : List Int} (h : Sl eInt w S A c xs) : ∀ x ∈ xs, -9223372036854775808 ≤ x ∧ x ≤ 9223372036854775807 := by
  intro x hx
  obtain ⟨i, hi⟩ := List.mem_iff_getElem?.1 hx
  obtain ⟨b, off, _, _, hc⟩ := h.2.2 (fun e => by rw [e] at hx; cases hx)
  obtain ⟨es, ⟨_, h1⟩, _⟩ := hc i x hi
  exact h1

theorem join_take_len {α : Type} {f : α → List UInt8} {l : List α} {sep : List UInt8} {B : Nat} (h : ∀ x ∈ l, (f x).length + sep.length ≤ B) (k : Nat) : (Go.Lib.join ((l.take k).map f) sep).length ≤ B * l.length := by
  by_cases hn : l = []
  · subst hn; simp [Go.Lib.join_nil]
  · obtain ⟨x0, hx0⟩ := List.exists_mem_of_ne_nil l hn
    have hs := h x0 hx0
    have h1 := join_len (B - sep.length) sep ((l.take k).map f) (by
      intro y hy
      obtain ⟨x, hx, rfl⟩ := List.mem_map.1 hy
      have := h x (List.mem_of_mem_take hx)
      omega)
    rw [List.length_map, List.length_take, show B - sep.length + sep.length = B from by omega] at h1
    have h2 : min k l.length * B ≤ l.length * B := Nat.mul_le_mul_right _ (by omega)
    rw [Nat.mul_comm B]
    omega

theorem ne_nil {α : Type} {l : List α} (h : ¬ l.length = 0) : ¬ l = [] := fun e => h (by rw [e]; rfl)

theorem eq_nil {α : Type} {l : List α} (h : l.length = 0) : l = [] := List.eq_nil_of_length_eq_zero h

set_option maxRecDepth 100000 in
set_option maxHeartbeats 4000000 in
theorem impl_Decimal (a0 : Int) (w : World) (hG : Glob w) (s0 : -9223372036854775808 ≤ a0 ∧ a0 ≤ 9223372036854775807) :
    Calls Tryd.prog 54 #[.int .i64 a0] w fun e w' => e = .returned (.string (bs (Go.Lib.itoa a0))) ∧ Below w.heap.size w w' := by
  have HH1 := Held.start Nob w
  refine enter (n := 5) Tryd.func54 rfl rfl rfl fun a_2 HE3 => ?_
  refine wp_seq ?_
  refine rg ?_
  refine pl_x HE3 HH1 (wt0 rfl) (x_assign rfl) rfl rfl fun a_4 HE5 => ?_
  refine wpList_nil ?_
  clear a_2 HE3
  refine nrm ?_
  refine wp_seq ?_
  refine rg ?_
  refine pl_x HE5 HH1 (wt0 rfl) (x_move rfl) rfl rfl fun a_6 HE7 => ?_
  refine pl fun K_8 hK9 => ?_
  refine st_call HE7 (wt0 rfl) rfl rfl rfl en_75 rfl rfl (FormatInt_10 a0 10 _ (HH1.glob hG) (by omega) (by rfl)) fun e w' hr => ?_
  have hAr21_0 := itoa_len (n := a0) (by omega)
  obtain ⟨rfl, hbr21⟩ := hr
  have HH10 := HH1.on hbr21
  refine ⟨_, rfl, fun a_11 HE12 => hK9 _ _ ?_⟩
  refine pl_x HE12 HH10 (wt0 rfl) (x_assign rfl) rfl rfl fun a_13 HE14 => ?_
  refine wpList_nil ?_
  clear a_4 HE5 HH1 a_6 HE7 a_11 HE12 hK9 K_8
  refine nrm ?_
  refine wp_ret ?_
  refine ret1 HE14 rfl (rv_tmp rfl) ?_
  have hF : (Go.Lib.itoa a0) = (Go.Lib.itoa a0) := by
    first | rfl | (simp [Go.Lib.itoa]; done) | (simp [Go.Lib.itoa]; omega) | grind [Go.Lib.itoa]
  exact ⟨by first | (rw [hF] <;> rfl) | rfl | (rw [hF]; simp only [Ending.returned.injEq, Value.slice.injEq, true_and, and_true]; first | omega | (simp; done)) | (rw [hF]; simp; omega), HH10.below⟩

def instrT (x : tInstr) : List UInt8 := if x.1 = 0 then [43] ++ (Go.Lib.itoa x.2.1 ++ [62] ++ Go.Lib.itoa x.2.2.1) else [45] ++ (Go.Lib.itoa x.2.1 ++ [62] ++ Go.Lib.itoa x.2.2.1) ++ [58] ++ Go.Lib.itoa x.2.2.2

def progT (p : List tInstr) : List UInt8 := if p = [] then [46] else Go.Lib.join (p.map instrT) [59]

def progText (p : List tInstr) : List UInt8 := if validProg p = true then progT p else []

def okIn (x : tInstr) : Prop := (0 ≤ x.2.1 ∧ x.2.1 ≤ 23) ∧ (0 ≤ x.2.2.1 ∧ x.2.2.1 ≤ 400) ∧ 0 ≤ x.2.2.2 ∧ x.2.2.2 ≤ 400

theorem validProg_ok {p : List tInstr} (h : validProg p = true) : p.length ≤ 400 ∧ ∀ x ∈ p, okIn x := by
  have h1 := validProg_okP h
  refine ⟨h1.1, fun x hx => ?_⟩
  have h2 := validProg_reg h x hx
  have h3 := validProg_to h x hx
  have h4 := h1.1
  exact ⟨h2, ⟨h3.1.1, by omega⟩, h3.2.1, by omega⟩

theorem ins_len {l : List tInstr} (h : ∀ x ∈ l, okIn x) (k : Nat) : (Go.Lib.join ((l.take k).map instrT) [59]).length ≤ 100 * l.length := by
  refine join_take_len (fun x hx => ?_) k
  obtain ⟨h1, h2, h3⟩ := h x hx
  have i1 := itoa_len (n := x.2.1) (by omega)
  have i2 := itoa_len (n := x.2.2.1) (by omega)
  have i3 := itoa_len (n := x.2.2.2) (by omega)
  unfold instrT
  split <;> simp only [List.length_append, List.length_cons, List.length_nil] <;> omega

theorem instrT_len {x : tInstr} (h : okIn x) : (instrT x).length ≤ 99 := by
  obtain ⟨h1, h2, h3⟩ := h
  have i1 := itoa_len (n := x.2.1) (by omega)
  have i2 := itoa_len (n := x.2.2.1) (by omega)
  have i3 := itoa_len (n := x.2.2.2) (by omega)
  unfold instrT
  split <;> simp only [List.length_append, List.length_cons, List.length_nil] <;> omega

set_option maxRecDepth 100000 in
set_option maxHeartbeats 4000000 in
theorem impl_instrText (es0 : List Value) (a0 : tInstr) (w : World) (h0 : eInstr.R w (Old w) es0 a0) (hG : Glob w) (s0 : okIn a0) :
    Calls Tryd.prog 64 #[.agg es0.toArray] w fun e w' => e = .returned (.string (bs (instrT a0))) ∧ Below w.heap.size w w' := by
  have H0 := h0
  obtain ⟨rfl, gz0_0, gz0_1, gz0_2, gz0_3⟩ := shape_Instr h0
  have jz0_0 := gz0_0; unfold I64 at jz0_0
  have jz0_1 := gz0_1; unfold I64 at jz0_1
  have jz0_2 := gz0_2; unfold I64 at jz0_2
  have jz0_3 := gz0_3; unfold I64 at jz0_3
  obtain ⟨v0, v1, v2⟩ := s0
  have HH1 := Held.start Nob w
  refine enter (n := 24) Tryd.func64 rfl rfl rfl fun a_2 HE3 => ?_
  refine wp_seq ?_
  refine rg ?_
  refine pl fun K_4 hK5 => ?_
  refine st_box (cs := [.int .i64 (a0.1), .int .i64 (a0.2.1), .int .i64 (a0.2.2.1), .int .i64 (a0.2.2.2)]) HE3 HH1 rfl rfl (wt0 rfl) rfl fun q21 a_6 w' HE7 HH8 => hK5 _ _ ?_
  refine pl_x HE7 HH8 (wt0 rfl) (x_assign rfl) rfl rfl fun a_9 HE10 => ?_
  refine wpList_nil ?_
  clear a_2 HE3 HH1 a_6 HE7 hK5 K_4
  refine nrm ?_
  refine wp_seq ?_
  refine dr_start (Held Nob w [rBlk q21 62 [.int .i64 (a0.1), .int .i64 (a0.2.1), .int .i64 (a0.2.2.1), .int .i64 (a0.2.2.2)]]) 9 #[false, false, false, false, false, false, false, false, false] hmix rfl rfl HH8 (fun _ h => h.sel [0] (by decide) rfl) fun w' HH11 => ?_
  have HS12 := HH11
  refine dr_take (i := 0) (ls' := #[true, false, false, false, false, false, false, false, false]) HE10 HS12 rfl (by kernel_rfl) (by kernel_rfl) (by kernel_rfl) (fun _ _ _ h => h) rfl (wt0 rfl) (x_fieldAddr fa_62_1 rfl) rfl rfl fun a_13 HE14 => ?_
  refine dr_take (i := 1) (ls' := #[true, true, false, false, false, false, false, false, false]) HE14 HS12 rfl (by kernel_rfl) (by kernel_rfl) (by kernel_rfl) (fun _ _ _ h => h) rfl (wt0 rfl) (x_load1 tv_2 rfl (c_blk 0 rfl rfl)) rfl rfl fun a_15 HE16 => ?_
  refine dr_take (i := 4) (ls' := #[true, true, false, false, true, false, false, false, false]) HE16 HS12 rfl (by kernel_rfl) (by kernel_rfl) (by kernel_rfl) (fun _ _ _ h => h) rfl (wt0 rfl) (x_fieldAddr fa_62_2 rfl) rfl rfl fun a_17 HE18 => ?_
  refine dr_take (i := 5) (ls' := #[true, true, false, false, true, true, false, false, false]) HE18 HS12 rfl (by kernel_rfl) (by kernel_rfl) (by kernel_rfl) (fun _ _ _ h => h) rfl (wt0 rfl) (x_load1 tv_2 rfl (c_blk 0 rfl rfl)) rfl rfl fun a_19 HE20 => ?_
  refine dr_one (i := 2) (ls' := #[true, true, true, false, true, true, false, false, false]) rfl (by kernel_rfl) rfl fun K_21 hK22 => ?_
  refine st_call HE20 (wt0 rfl) rfl rfl rfl en_54 rfl rfl (impl_Decimal a0.2.1 _ (HH11.glob hG) (by omega)) fun e w' hr => ?_
  have hAr22_0 := itoa_len (n := a0.2.1) (by omega)
  obtain ⟨rfl, hbr22⟩ := hr
  have HH23 := HH11.on hbr22
  refine ⟨_, rfl, fun a_24 HE25 => hK22 _ _ (by exact HH23.sel [0] (by decide) rfl) ?_⟩
  have HS26 := HH23.sel [0] (by decide) rfl
  refine dr_take (i := 3) (ls' := #[true, true, true, true, true, true, false, false, false]) HE25 HS26 rfl (by kernel_rfl) (by kernel_rfl) (by kernel_rfl) (fun _ _ _ h => h) rfl (wt0 rfl) (x_sadd rfl rfl (by first | omega | (simp only [List.length_append, List.length_cons, List.length_nil]; omega) | (simp; omega))) rfl rfl fun a_27 HE28 => ?_
  refine dr_one (i := 6) (ls' := #[true, true, true, true, true, true, true, false, false]) rfl (by kernel_rfl) rfl fun K_29 hK30 => ?_
  refine st_call HE28 (wt0 rfl) rfl rfl rfl en_54 rfl rfl (impl_Decimal a0.2.2.1 _ (HH23.glob hG) (by omega)) fun e w' hr => ?_
  have hAr23_0 := itoa_len (n := a0.2.2.1) (by omega)
  obtain ⟨rfl, hbr23⟩ := hr
  have HH31 := HH23.on hbr23
  refine ⟨_, rfl, fun a_32 HE33 => hK30 _ _ (by exact HH31.sel [0] (by decide) rfl) ?_⟩
  have HS34 := HH31.sel [0] (by decide) rfl
  refine dr_take (i := 7) (ls' := #[true, true, true, true, true, true, true, true, false]) HE33 HS34 rfl (by kernel_rfl) (by kernel_rfl) (by kernel_rfl) (fun _ _ _ h => h) rfl (wt0 rfl) (x_sadd rfl rfl (by first | omega | (simp only [List.length_append, List.length_cons, List.length_nil]; omega) | (simp; omega))) rfl rfl fun a_35 HE36 => ?_
  refine dr_take (i := 8) (ls' := #[true, true, true, true, true, true, true, true, true]) HE36 HS34 rfl (by kernel_rfl) (by kernel_rfl) (by kernel_rfl) (fun _ _ _ h => h) rfl (wt0 rfl) (x_assign rfl) rfl rfl fun a_37 HE38 => ?_
  refine dr_done (by kernel_rfl) ?_
  clear HH8 a_9 HE10 a_13 HE14 a_15 HE16 a_17 HE18 HH11 a_19 HE20 HS12 a_24 HE25 K_21 hK22 HH23 a_27 HE28 HS26 a_32 HE33 a_35 HE36 hK30 K_29
  refine nrm ?_
  refine wp_seq ?_
  refine wp_seq ?_
  refine rg ?_
  refine pl_x HE38 HH31 (wt0 rfl) (x_fieldAddr fa_62_0 rfl) rfl rfl fun a_39 HE40 => ?_
  refine pl_x HE40 HH31 (wt0 rfl) (x_load1 tv_2 rfl (c_blk 0 rfl rfl)) rfl rfl fun a_41 HE42 => ?_
  refine pl_x HE42 HH31 (wt0 rfl) (x_eql rfl rfl) rfl rfl fun a_43 HE44 => ?_
  refine wpList_nil ?_
  clear a_37 HE38 a_39 HE40 a_41 HE42
  refine nrm ?_
  refine cnd_e HE44 rfl (fun hc24 => ?_) (fun hc24 => ?_)
  · refine wp_seq ?_
    refine rg ?_
    refine pl_x HE44 HH31 (wt0 rfl) (x_move rfl) rfl rfl fun a_45 HE46 => ?_
    refine pl_x HE46 HH31 (wt0 rfl) (x_sadd rfl rfl (by first | omega | (simp only [List.length_append, List.length_cons, List.length_nil]; omega) | (simp; omega))) rfl rfl fun a_47 HE48 => ?_
    refine pl_x HE48 HH31 (wt0 rfl) (x_assign rfl) rfl rfl fun a_49 HE50 => ?_
    refine wpList_nil ?_
    clear a_43 HE44 a_45 HE46 a_47 HE48
    refine nrm ?_
    refine wp_ret ?_
    refine (thn_ret ?_)
    refine ret1 HE50 rfl (rv_tmp rfl) ?_
    have hF : (instrT a0) = ([43] ++ (((Go.Lib.itoa a0.2.1) ++ [62]) ++ (Go.Lib.itoa a0.2.2.1))) := by
      unfold instrT; first | (rw [if_pos (by omega)]; done) | (rw [if_neg (by omega)]; done)
    exact ⟨by first | (rw [hF] <;> rfl) | rfl | (rw [hF]; simp only [Ending.returned.injEq, Value.slice.injEq, true_and, and_true]; first | omega | (simp; done)) | (rw [hF]; simp; omega), HH31.below⟩
  · refine wp_skip ?_
    refine nrm ?_
    refine wp_seq ?_
    refine rg ?_
    refine pl_x HE44 HH31 (wt0 rfl) (x_move rfl) rfl rfl fun a_51 HE52 => ?_
    refine pl_x HE52 HH31 (wt0 rfl) (x_sadd rfl rfl (by first | omega | (simp only [List.length_append, List.length_cons, List.length_nil]; omega) | (simp; omega))) rfl rfl fun a_53 HE54 => ?_
    refine pl_x HE54 HH31 (wt0 rfl) (x_sadd rfl rfl (by first | omega | (simp only [List.length_append, List.length_cons, List.length_nil]; omega) | (simp; omega))) rfl rfl fun a_55 HE56 => ?_
    refine pl_x HE56 HH31 (wt0 rfl) (x_fieldAddr fa_62_3 rfl) rfl rfl fun a_57 HE58 => ?_
    refine pl_x HE58 HH31 (wt0 rfl) (x_load1 tv_2 rfl (c_blk 0 rfl rfl)) rfl rfl fun a_59 HE60 => ?_
    refine pl fun K_61 hK62 => ?_
    refine st_call HE60 (wt0 rfl) rfl rfl rfl en_54 rfl rfl (impl_Decimal a0.2.2.2 _ (HH31.glob hG) (by omega)) fun e w' hr => ?_
    have hAr25_0 := itoa_len (n := a0.2.2.2) (by omega)
    obtain ⟨rfl, hbr25⟩ := hr
    have HH63 := HH31.on hbr25
    refine ⟨_, rfl, fun a_64 HE65 => hK62 _ _ ?_⟩
    refine pl_x HE65 HH63 (wt0 rfl) (x_sadd rfl rfl (by first | omega | (simp only [List.length_append, List.length_cons, List.length_nil]; omega) | (simp; omega))) rfl rfl fun a_66 HE67 => ?_
    refine pl_x HE67 HH63 (wt0 rfl) (x_assign rfl) rfl rfl fun a_68 HE69 => ?_
    refine wpList_nil ?_
    clear a_43 HE44 a_51 HE52 a_53 HE54 a_55 HE56 a_57 HE58 HH31 a_59 HE60 a_64 HE65 a_66 HE67 hK62 K_61
    refine nrm ?_
    refine wp_ret ?_
    refine ret1 HE69 rfl (rv_tmp rfl) ?_
    have hF : (instrT a0) = ((([45] ++ (((Go.Lib.itoa a0.2.1) ++ [62]) ++ (Go.Lib.itoa a0.2.2.1))) ++ [58]) ++ (Go.Lib.itoa a0.2.2.2)) := by
      unfold instrT; first | (rw [if_pos (by omega)]; done) | (rw [if_neg (by omega)]; done)
    exact ⟨by first | (rw [hF] <;> rfl) | rfl | (rw [hF]; simp only [Ending.returned.injEq, Value.slice.injEq, true_and, and_true]; first | omega | (simp; done)) | (rw [hF]; simp; omega), HH63.below⟩

set_option maxRecDepth 100000 in
set_option maxHeartbeats 4000000 in
theorem impl_ProgramText (A0 : Option Addr) (c0 : Nat) (a0 : (List tInstr)) (w : World) (h0 : Sl eInstr w (Old w) A0 c0 a0) (hG : Glob w) :
    Calls Tryd.prog 42 #[.slice A0 a0.length c0] w fun e w' => e = .returned (.string (bs (progText a0))) ∧ Below w.heap.size w w' := by
  have l0 := h0.len
  have HH1 := Held.start Nob w
  refine enter (n := 27) Tryd.func42 rfl rfl rfl fun a_2 HE3 => ?_
  refine wp_seq ?_
  refine rg ?_
  refine pl_x HE3 HH1 (wt0 rfl) (x_assign rfl) rfl rfl fun a_4 HE5 => ?_
  refine wpList_nil ?_
  clear a_2 HE3
  refine nrm ?_
  refine wp_seq ?_
  refine wp_seq ?_
  refine rg ?_
  refine pl_x HE5 HH1 (wt0 rfl) (x_move rfl) rfl rfl fun a_6 HE7 => ?_
  refine pl fun K_8 hK9 => ?_
  refine st_call HE7 (wt0 rfl) rfl rfl rfl en_63 rfl rfl (impl_ValidProgram _ _ a0 _ (HH1.old h0)) fun e w' hr => ?_
  obtain ⟨rfl, hbr21⟩ := hr
  have HH10 := HH1.on hbr21
  refine ⟨_, rfl, fun a_11 HE12 => hK9 _ _ ?_⟩
  refine pl_x HE12 HH10 (wt0 rfl) (x_not rfl) rfl rfl fun a_13 HE14 => ?_
  refine wpList_nil ?_
  clear a_4 HE5 HH1 a_6 HE7 a_11 HE12 hK9 K_8
  refine nrm ?_
  refine cnd_nb HE14 rfl (fun hc22 => ?_) (fun hc22 => ?_)
  · refine wp_seq ?_
    refine rg ?_
    refine pl_x HE14 HH10 (wt0 rfl) (x_assign rfl) rfl rfl fun a_15 HE16 => ?_
    refine wpList_nil ?_
    clear a_13 HE14
    refine nrm ?_
    refine wp_ret ?_
    refine (thn_ret ?_)
    refine ret1 HE16 rfl (rv_tmp rfl) ?_
    have hF : (progText a0) = [] := by
      unfold progText; first | (rw [if_neg (by simp [hc22])]; done) | (rw [if_pos ‹_›]; unfold progT; first | (rw [if_pos (eq_nil (by omega))]; done) | (rw [if_neg (ne_nil (by omega)), List.take_of_length_le (by omega)]))
    exact ⟨by first | (rw [hF] <;> rfl) | rfl | (rw [hF]; simp only [Ending.returned.injEq, Value.slice.injEq, true_and, and_true]; first | omega | (simp; done)) | (rw [hF]; simp; omega), HH10.below⟩
  · obtain ⟨v0, v1⟩ := validProg_ok hc22
    refine wp_skip ?_
    refine nrm ?_
    refine wp_seq ?_
    refine wp_seq ?_
    refine rg ?_
    refine pl_x HE14 HH10 (wt0 rfl) (x_move rfl) rfl rfl fun a_17 HE18 => ?_
    refine pl_x HE18 HH10 (wt0 rfl) (x_len Tryd.underlying36 rfl) rfl rfl fun a_19 HE20 => ?_
    refine pl_x HE20 HH10 (wt0 rfl) (x_eql rfl rfl) rfl rfl fun a_21 HE22 => ?_
    refine wpList_nil ?_
    clear a_13 HE14 a_17 HE18 a_19 HE20
    refine nrm ?_
    refine cnd_e HE22 rfl (fun hc23 => ?_) (fun hc23 => ?_)
    · refine wp_seq ?_
      refine rg ?_
      refine pl_x HE22 HH10 (wt0 rfl) (x_assign rfl) rfl rfl fun a_23 HE24 => ?_
      refine wpList_nil ?_
      clear a_21 HE22
      refine nrm ?_
      refine wp_ret ?_
      refine (thn_ret ?_)
      refine ret1 HE24 rfl (rv_tmp rfl) ?_
      have hF : (progText a0) = [46] := by
        unfold progText; first | (rw [if_neg (by simp [hc22, hc23])]; done) | (rw [if_pos ‹_›]; unfold progT; first | (rw [if_pos (eq_nil (by omega))]; done) | (rw [if_neg (ne_nil (by omega)), List.take_of_length_le (by omega)]))
      exact ⟨by first | (rw [hF] <;> rfl) | rfl | (rw [hF]; simp only [Ending.returned.injEq, Value.slice.injEq, true_and, and_true]; first | omega | (simp; done)) | (rw [hF]; simp; omega), HH10.below⟩
    · refine wp_skip ?_
      refine nrm ?_
      refine wp_seq ?_
      refine rg ?_
      refine pl fun K_25 hK26 => ?_
      refine st_lit (m := 0) (cs := []) (e := 9) HE22 HH10 (run_lit ts_43 HE22 (vs := []) rfl rfl (by simp [Value.cells]) rfl (by decide)) (wt0 rfl) rfl rfl fun q24 a_27 w' HE28 HH29 => hK26 _ _ ?_
      refine pl_x HE28 HH29 (wt0 rfl) (x_assign rfl) rfl rfl fun a_30 HE31 => ?_
      refine wpList_nil ?_
      clear a_21 HE22 HH10 a_27 HE28 hK26 K_25
      refine nrm ?_
      refine wp_seq ?_
      refine wp_seq ?_
      refine rg ?_
      refine pl_x HE31 HH29 (wt0 rfl) (x_move rfl) rfl rfl fun a_32 HE33 => ?_
      refine pl_x HE33 HH29 (wt0 rfl) (x_len Tryd.underlying36 rfl) rfl rfl fun a_34 HE35 => ?_
      refine pl_x HE35 HH29 (wt0 rfl) (x_move rfl) rfl rfl fun a_36 HE37 => ?_
      refine wpList_nil ?_
      clear a_30 HE31 a_32 HE33 a_34 HE35
      refine nrm ?_
      refine wp_block ?_
      have HH38 := Held.vecFlat (E := eTxt) (xs := []) (css := []) HH29 rfl (Nat.zero_le _) (fun i x hx => by simp at hx)
      refine lp (fun m a w' => ∃ (k : Nat) (A_3 : Option Addr) (c_3 : Nat) (S_3 : Nat → Prop), m = a0.length - k ∧ Env 27 [(3, .slice A_3 (List.length ((a0.take k).map instrT)) c_3), (15, .int .i64 (k : Int)), (13, .slice A0 (a0.length) c0), (14, .int .i64 ((a0.length : Int)))] a ∧ Held Nob w [rVec eTxt 9 S_3 A_3 c_3 ((a0.take k).map instrT)] w' ∧ (k ≤ a0.length)) (a0.length - (0)) ?_ ?_
      · have E25 : (a0.take 0).map instrT = ([] : List (List UInt8)) := by
          first | rfl | simp
        exact ⟨0, (some ⟨q24, 0, none⟩), (List.length (α := (List UInt8)) []), (fun b => b = q24), rfl, HE37.sub ⟨(by rw [E25]; rfl), (lkI rfl (by first | rfl | omega | (simp [hc22, hc23]; done))), rfl, rfl, trivial⟩, ((HH38.sel [0] (by decide) rfl).to (by first | rfl | (rw [E25]; done) | (rw [E25]; rfl) | (simp only [E25]; done) | (simp only [E25]; rfl) | (rw [E25]; simp only [List.length_set]; done))), (by first | omega | assumption | (simp; done) | simp_all)⟩
      · rintro m a_39 w' ⟨k, A_3, c_3, S_3, rfl, HE40, HH41, p26_0⟩
        have ol : ((a0.take k).map instrT).length ≤ 400 := by rw [List.length_map, List.length_take]; omega
        have oj := ins_len v1 k
        refine wp_seq ?_
        refine rg ?_
        refine pl_x HE40 HH41 (wt0 rfl) (x_lss rfl rfl) rfl rfl fun a_42 HE43 => ?_
        refine wpList_nil ?_
        clear HH29 a_36 HE37 HH38 a_39 HE40
        refine nrm ?_
        refine wp_seq ?_
        refine cnd_d HE43 rfl (fun hc27 => ?_) (fun hc27 => ?_)
        · refine wp_skip ?_
          refine nrm ?_
          refine wp_seq ?_
          refine wp_block ?_
          refine wp_seq ?_
          refine rg ?_
          have ke28 : k < a0.length := by omega
          obtain ⟨be28, fe28, ese28, Ae28, Re28, De28⟩ := el_old h0 ke28
          obtain ⟨e28, xe28⟩ : ∃ x_, x_ = a0[k] := ⟨_, rfl⟩
          rw [← xe28] at Re28
          have Qe28 := Re28
          obtain ⟨rfl, ge28_0, ge28_1, ge28_2, ge28_3⟩ := shape_Instr Re28
          have je28_0 := ge28_0; unfold I64 at je28_0
          have je28_1 := ge28_1; unfold I64 at je28_1
          have je28_2 := ge28_2; unfold I64 at je28_2
          have je28_3 := ge28_3; unfold I64 at je28_3
          have fe28 := v1 e28 (by rw [xe28]; exact List.getElem_mem _)
          refine pl_x HE43 HH41 (wt0 rfl) (x_indexAddr ts_36 rfl rfl Ae28 rfl ke28) rfl rfl fun a_44 HE45 => ?_
          refine pl_x HE45 HH41 (wt0 rfl) (x_loadN (cs := [.int .i64 (e28.1), .int .i64 (e28.2.1), .int .i64 (e28.2.2.1), .int .i64 (e28.2.2.2)]) tv_62 rfl rfl (c_oldN De28)) rfl rfl fun a_46 HE47 => ?_
          refine pl fun K_48 hK49 => ?_
          refine st_alloc HE47 HH41 tv_62 (wt0 rfl) rfl fun q29 a_50 w' HE51 HH52 => hK49 _ _ ?_
          refine pl fun K_53 hK54 => ?_
          refine st_store (vs := [.int .i64 (e28.1), .int .i64 (e28.2.1), .int .i64 (e28.2.2.1), .int .i64 (e28.2.2.2)]) 0 HE51 HH52 tv_62 rfl rfl rfl rfl rfl rfl (by simp [Value.oneCell']) (wt0 rfl) fun w' HH55 => hK54 _ _ ?_
          refine wpList_nil ?_
          clear a_42 HE43 a_44 HE45 a_46 HE47 HH41 K_48 hK49 HH52 hK54 K_53
          refine nrm ?_
          refine rg ?_
          refine pl_x HE51 HH55 (wt0 rfl) (x_move rfl) rfl rfl fun a_56 HE57 => ?_
          refine pl_x HE57 HH55 (wt0 rfl) (x_loadN (cs := [.int .i64 (e28.1), .int .i64 (e28.2.1), .int .i64 (e28.2.2.1), .int .i64 (e28.2.2.2)]) tv_62 rfl rfl (c_blkN 0 rfl)) rfl rfl fun a_58 HE59 => ?_
          refine pl fun K_60 hK61 => ?_
          refine st_call HE59 (wt0 rfl) rfl rfl rfl en_64 rfl rfl (impl_instrText [.int .i64 (e28.1), .int .i64 (e28.2.1), .int .i64 (e28.2.2.1), .int .i64 (e28.2.2.2)] e28 _ (HH55.oldR Qe28) (HH55.glob hG) (by assumption)) fun e w' hr => ?_
          have hAr30_0 := instrT_len (x := e28) (by assumption)
          obtain ⟨rfl, hbr30⟩ := hr
          have HH62 := HH55.on hbr30
          refine ⟨_, rfl, fun a_63 HE64 => hK61 _ _ ?_⟩
          refine pl fun K_65 hK66 => ?_
          refine st_lit (m := 1) (cs := [.string (bs (instrT e28))]) (e := 9) HE64 HH62 (run_lit ts_43 HE64 (vs := [.string (bs (instrT e28))]) rfl rfl (by simp [Value.cells]) rfl (by decide)) (wt0 rfl) rfl rfl fun q31 a_67 w' HE68 HH69 => hK66 _ _ ?_
          refine pl fun K_70 hK71 => ?_
          refine st_app1F (instrT e28) HE68 HH69 ts_43 [2, 0, 1] (by decide) rfl (fun _ => (oS (by first | omega | (simp only [List.length_append, List.length_cons, List.length_nil]; omega) | (simp; omega)))) rfl rfl (by simp [Value.oneCell']) (by unfold maxLen; first | omega | (simp; done) | (simp; omega)) (by first | omega | (simp; done) | (simp; omega)) (wt0 rfl) rfl fun A32 c33 S34 a_72 w' HE73 HH74 => hK71 _ _ ?_
          refine pl_x HE73 HH74 (wt0 rfl) (x_assign rfl) rfl rfl fun a_75 HE76 => ?_
          refine wpList_nil ?_
          clear a_50 HE51 a_56 HE57 HH55 a_58 HE59 K_60 hK61 a_63 HE64 HH62 K_65 hK66 a_67 HE68 HH69 a_72 HE73 hK71 K_70
          refine blk_n ?_
          refine nrm ?_
          refine rg ?_
          refine pl_x HE76 HH74 (wt0 rfl) (x_add rfl rfl (by exact ⟨by omega, by omega⟩)) rfl rfl fun a_77 HE78 => ?_
          refine pl_x HE78 HH74 (wt0 rfl) (x_move rfl) rfl rfl fun a_79 HE80 => ?_
          refine wpList_nil ?_
          clear a_75 HE76 a_77 HE78
          have E35 : (a0.take (k + 1)).map instrT = ((a0.take k).map instrT ++ [(instrT e28)]) := by
            first | (rw [List.take_succ_eq_append_getElem (by omega), List.map_append, ← xe28]; rfl) | (rw [List.take_succ_eq_append_getElem (by omega), List.map_append, ← xe28]; simp [instrT, hc27])
          exact nrm ⟨a0.length - (k + 1), (by omega), k + 1, A32, c33, S34, rfl, HE80.sub ⟨(by rw [E35]; rfl), (lkI rfl (by first | rfl | omega | (simp [hc22, hc23, p26_0, hc27, xe28]; done))), rfl, rfl, trivial⟩, ((HH74.sel [0] (by decide) rfl).to (by first | rfl | (rw [E35]; done) | (rw [E35]; rfl) | (simp only [E35]; done) | (simp only [E35]; rfl) | (rw [E35]; simp only [List.length_set]; done))), (by first | omega | assumption | (simp; done) | simp_all)⟩
        · refine wp_exit ?_
          refine (thn_exit (thn_exit (blk_hit ?_)))
          refine nrm ?_
          refine wp_seq ?_
          refine rg ?_
          refine pl_x HE43 HH41 (wt0 rfl) (x_move rfl) rfl rfl fun a_81 HE82 => ?_
          refine pl fun K_83 hK84 => ?_
          refine st_call HE82 (wt0 rfl) rfl rfl rfl en_59 rfl rfl (Join_Str _ _ ((a0.take k).map instrT) ([59]) _ (HH41.vecSl (i := 0) rfl) (by first | omega | (simp; done)) (by first | omega | (simp [Go.Lib.join, List.intercalate]; omega))) fun e w' hr => ?_
          have hAr36_0 := (by first | omega | (simp [Go.Lib.join, List.intercalate]; omega) : (Go.Lib.join ((a0.take k).map instrT) ([59])).length ≤ 1000000000)
          obtain ⟨rfl, hbr36⟩ := hr
          have HH85 := HH41.on hbr36
          refine ⟨_, rfl, fun a_86 HE87 => hK84 _ _ ?_⟩
          refine pl_x HE87 HH85 (wt0 rfl) (x_assign rfl) rfl rfl fun a_88 HE89 => ?_
          refine wpList_nil ?_
          clear a_42 HE43 HH41 a_81 HE82 a_86 HE87 hK84 K_83
          refine nrm ?_
          refine wp_ret ?_
          refine ret1 HE89 rfl (rv_tmp rfl) ?_
          have hF : (progText a0) = (Go.Lib.join ((a0.take k).map instrT) ([59])) := by
            unfold progText; first | (rw [if_neg (by simp [hc22, hc23, p26_0, hc27])]; done) | (rw [if_pos ‹_›]; unfold progT; first | (rw [if_pos (eq_nil (by omega))]; done) | (rw [if_neg (ne_nil (by omega)), List.take_of_length_le (by omega)]))
          exact ⟨by first | (rw [hF] <;> rfl) | rfl | (rw [hF]; simp only [Ending.returned.injEq, Value.slice.injEq, true_and, and_true]; first | omega | (simp; done)) | (rw [hF]; simp; omega), HH85.below⟩

open Go.Lib in
def isDg (c : UInt8) : Bool := decide (48 ≤ c.toNat) && decide (c.toNat ≤ 57)

open Go.Lib in
def dgv (c : UInt8) : Nat := c.toNat - 48

open Go.Lib in
/-- What digits spell, on from acc. -/
def valD (acc : Nat) (l : List UInt8) : Nat := l.foldl (fun a c => a * 10 + dgv c) acc

open Go.Lib in
theorem valD_cons (acc : Nat) (c : UInt8) (r : List UInt8) : valD acc (c :: r) = valD (acc * 10 + dgv c) r := by unfold valD; rw [List.foldl_cons]

open Go.Lib in
theorem valD_nil (acc : Nat) : valD acc [] = acc := by unfold valD; rw [List.foldl_nil]

open Go.Lib in
theorem valD_snoc (l : List UInt8) (c : UInt8) (acc : Nat) : valD acc (l ++ [c]) = valD acc l * 10 + dgv c := by
  unfold valD; rw [List.foldl_append, List.foldl_cons, List.foldl_nil]

open Go.Lib in
theorem dgv_def (c : UInt8) : dgv c = c.toNat - 48 := rfl

open Go.Lib in
theorem valD_one (c : UInt8) : valD 0 [c] = c.toNat - 48 := by rw [valD_cons, valD_nil, dgv_def]; omega

open Go.Lib in
theorem valD_ge (l : List UInt8) : ∀ acc : Nat, acc ≤ valD acc l := by
  induction l with
  | nil => intro acc; rw [valD_nil]; exact Nat.le_refl _
  | cons c l ih => intro acc; rw [valD_cons]; exact Nat.le_trans (by omega) (ih _)

open Go.Lib in
theorem val_arith {a d p v : Nat} (hd : d ≤ 57) (h1 : v < (a * 10 + (d - 48) + 1) * p) : v < (a + 1) * (p * 10) := by
  refine Nat.lt_of_lt_of_le h1 ?_
  rw [Nat.mul_comm p 10, ← Nat.mul_assoc]
  exact Nat.mul_le_mul_right _ (by omega)

open Go.Lib in
theorem isDg_iff {c : UInt8} : isDg c = true ↔ 48 ≤ c.toNat ∧ c.toNat ≤ 57 := by unfold isDg; simp

open Go.Lib in
theorem valD_lt (l : List UInt8) : ∀ acc : Nat, l.all isDg = true → valD acc l < (acc + 1) * 10 ^ l.length := by
  induction l with
  | nil => intro acc _; rw [List.length_nil, Nat.pow_zero, Nat.mul_one, valD_nil]; exact Nat.lt_succ_self _
  | cons c l ih =>
    intro acc h
    rw [List.all_cons, Bool.and_eq_true] at h
    rw [List.length_cons, Nat.pow_succ, valD_cons]
    exact val_arith (isDg_iff.1 h.1).2 (ih _ h.2)

open Go.Lib in
theorem dec_val : ∀ (n : Nat) (l : List UInt8), l.length = n → l ≠ [] → l.all isDg = true → (l.head? = some 48 → l.length = 1) → decDigits (valD 0 l) = l
  | 0, l, hl, hn, _, _ => absurd (List.eq_nil_of_length_eq_zero hl) hn
  | n + 1, l, hl, hn, hd, h0 => by
    obtain ⟨q, c, rfl⟩ : ∃ q c, l = q ++ [c] := ⟨l.dropLast, l.getLast hn, (List.dropLast_concat_getLast hn).symm⟩
    rw [List.all_append, Bool.and_eq_true] at hd
    have hc : 48 ≤ c.toNat ∧ c.toNat ≤ 57 := by have := hd.2; rw [List.all_cons, List.all_nil, Bool.and_true] at this; exact isDg_iff.1 this
    have hcc : UInt8.ofNat (48 + (c.toNat - 48)) = c := by rw [show 48 + (c.toNat - 48) = c.toNat from by omega]; simp
    rw [valD_snoc, dgv_def]
    by_cases hq : q = []
    · subst hq
      have e0 : valD 0 ([] : List UInt8) * 10 + (c.toNat - 48) = c.toNat - 48 := by rw [valD_nil]; omega
      rw [e0, decDigits, dif_pos (by omega), hcc, List.nil_append]
    · have hq1 : q.head? ≠ some 48 := by
        intro e
        have := h0 (by cases q with | nil => exact absurd rfl hq | cons _ _ => simpa using e)
        rw [List.length_append] at this
        have : q.length = 0 := by simp at this; exact absurd this hq
        exact hq (List.eq_nil_of_length_eq_zero this)
      have ih := dec_val n q (by rw [List.length_append] at hl; simp at hl; omega) hq hd.1 (fun e => absurd e hq1)
      have hpos : 1 ≤ valD 0 q := by
        cases q with
        | nil => exact absurd rfl hq
        | cons d q =>
          have hd1 := hd.1
          rw [List.all_cons, Bool.and_eq_true] at hd1
          have hdd : 48 ≤ d.toNat ∧ d.toNat ≤ 57 := isDg_iff.1 hd1.1
          have hne : d ≠ 48 := fun e => hq1 (by rw [e]; rfl)
          have hne2 : d.toNat ≠ 48 := fun e => hne (UInt8.toNat_inj.1 e)
          rw [valD_cons, dgv_def]
          exact Nat.le_trans (by omega) (valD_ge q _)
      rw [decDigits, dif_neg (by omega), show (valD 0 q * 10 + (c.toNat - 48)) / 10 = valD 0 q from by omega, show (valD 0 q * 10 + (c.toNat - 48)) % 10 = c.toNat - 48 from by omega, ih, hcc]

open Go.Lib in
theorem dec_dig (n : Nat) : (decDigits n).all isDg = true ∧ decDigits n ≠ [] ∧ valD 0 (decDigits n) = n ∧ ((decDigits n).head? = some 48 → n = 0) := by
  induction n using Nat.strongRecOn with
  | _ n ih =>
    by_cases h : n < 10
    · rw [decDigits, dif_pos h]
      have e : (UInt8.ofNat (48 + n)).toNat = 48 + n := by simp; omega
      refine ⟨by rw [List.all_cons, List.all_nil, Bool.and_true]; exact isDg_iff.2 (by rw [e]; omega), by simp, by rw [valD_one, e]; omega, ?_⟩
      intro h2
      simp only [List.head?_cons, Option.some.injEq] at h2
      have := congrArg UInt8.toNat h2
      rw [e] at this
      have h3 : (48 : UInt8).toNat = 48 := rfl
      omega
    · obtain ⟨h1, h2, h3, h4⟩ := ih (n / 10) (by omega)
      rw [decDigits, dif_neg h]
      have e : (UInt8.ofNat (48 + n % 10)).toNat = 48 + n % 10 := by simp; omega
      refine ⟨by rw [List.all_append, h1, List.all_cons, List.all_nil, Bool.and_true, Bool.true_and]; exact isDg_iff.2 (by rw [e]; omega), by simp, by rw [valD_snoc, h3, dgv_def, e]; omega, ?_⟩
      intro h5
      have h6 : (decDigits (n / 10)).head? = some 48 := by
        cases hq : decDigits (n / 10) with
        | nil => exact absurd hq h2
        | cons a b => rw [hq] at h5; exact h5
      have := h4 h6
      omega

open Go.Lib in
theorem parse_dig (M : Nat) (l : List UInt8) : ∀ acc : Nat, l.all isDg = true → valD acc l ≤ M → valD acc l < 18446744073709551615 → parseUintM M acc l = .ok (valD acc l) := by
  induction l with
  | nil => intro acc _ _ _; rw [valD_nil, parseUintM]
  | cons c l ih =>
    intro acc h h1 h2
    rw [List.all_cons, Bool.and_eq_true] at h
    have hc := isDg_iff.1 h.1
    have hg := valD_ge l (acc * 10 + dgv c)
    rw [valD_cons] at h1 h2 ⊢
    have hd := dgv_def c
    rw [parseUintM, if_pos hc, ← hd, if_neg (by omega), if_neg (by omega)]
    exact ih _ h.2 h1 h2

open Go.Lib in
/-- The part of a numeral behind its sign. -/
def unsg (s : List UInt8) : List UInt8 := if s.head? = some 45 then s.tail else s

open Go.Lib in
/-- A numeral of at most 18 digits, in its one form. -/
def okNum (s : List UInt8) : Bool := decide (unsg s ≠ []) && decide ((unsg s).length ≤ 18) && (unsg s).all isDg && !(decide ((unsg s).head? = some 48) && decide (1 < s.length))

open Go.Lib in
def numOf (s : List UInt8) : Int := if s.head? = some 45 then -(valD 0 (unsg s) : Int) else (valD 0 (unsg s) : Int)

open Go.Lib in
def numC (s : List UInt8) : Int × Bool := if okNum s = true then (numOf s, true) else (0, false)

open Go.Lib in
/-- The program's way. -/
def numR (s : List UInt8) : Int × Bool :=
  match parseIntB 64 s with
  | .ok v => if itoa v = s ∧ (unsg s).length ≤ 18 then (v, true) else (0, false)
  | _ => (0, false)

open Go.Lib in
theorem okNum_iff (s : List UInt8) : okNum s = true ↔ unsg s ≠ [] ∧ (unsg s).length ≤ 18 ∧ (unsg s).all isDg = true ∧ ¬ ((unsg s).head? = some 48 ∧ 1 < s.length) := by
  unfold okNum
  simp only [Bool.and_eq_true, decide_eq_true_eq, Bool.not_eq_true', Bool.and_eq_false_iff, decide_eq_false_iff_not]
  constructor
  · rintro ⟨⟨⟨h1, h2⟩, h3⟩, h4⟩; exact ⟨h1, h2, h3, fun ⟨a, b⟩ => h4.elim (fun h => h a) (fun h => h b)⟩
  · rintro ⟨h1, h2, h3, h4⟩
    refine ⟨⟨⟨h1, h2⟩, h3⟩, ?_⟩
    by_cases a : (unsg s).head? = some 48
    · exact .inr fun b => h4 ⟨a, b⟩
    · exact .inl a

open Go.Lib in
theorem dig_head {l : List UInt8} (h : l.all isDg = true) : l.head? ≠ some 45 := by
  cases l with
  | nil => simp
  | cons c l =>
    rw [List.all_cons, Bool.and_eq_true] at h
    intro e
    simp only [List.head?_cons, Option.some.injEq] at e
    have := h.1
    rw [e] at this
    exact absurd this (by decide)

open Go.Lib in
/-- The one form of a number has it again. -/
theorem okNum_itoa {v : Int} (h : -1000000000000000000 < v ∧ v < 1000000000000000000) : okNum (itoa v) = true ∧ numOf (itoa v) = v := by
  have key : ∀ n : Nat, n < 1000000000000000000 → (decDigits n).length ≤ 18 := by
    intro n hn
    rw [decDigits_length]
    exact nDigits_le 17 n (by simpa using hn)
  by_cases hv : v < 0
  · obtain ⟨h1, h2, h3, h4⟩ := dec_dig v.natAbs
    have e : itoa v = 45 :: decDigits v.natAbs := by unfold itoa; rw [if_pos hv]
    rw [e]
    have eu : unsg (45 :: decDigits v.natAbs) = decDigits v.natAbs := rfl
    refine ⟨(okNum_iff _).2 ?_, ?_⟩
    · rw [eu]
      exact ⟨h2, key _ (by omega), h1, fun hq => by have := h4 hq.1; omega⟩
    · unfold numOf
      rw [eu, List.head?_cons, if_pos rfl, h3]; omega
  · obtain ⟨h1, h2, h3, h4⟩ := dec_dig v.toNat
    have e : itoa v = decDigits v.toNat := by unfold itoa; rw [if_neg hv]
    rw [e]
    have eu : unsg (decDigits v.toNat) = decDigits v.toNat := by unfold unsg; rw [if_neg (dig_head h1)]
    refine ⟨(okNum_iff _).2 ?_, ?_⟩
    · rw [eu]
      refine ⟨h2, key _ (by omega), h1, fun hq => ?_⟩
      have h5 := h4 hq.1
      rw [h5] at hq
      rw [decDigits, dif_pos (by omega)] at hq
      exact absurd hq.2 (by simp)
    · unfold numOf
      rw [eu, if_neg (dig_head h1), h3]; omega

open Go.Lib in
theorem itoa_num {s : List UInt8} (h : okNum s = true) : itoa (numOf s) = s ∧ -1000000000000000000 < numOf s ∧ numOf s < 1000000000000000000 := by
  obtain ⟨h1, h2, h3, h4⟩ := (okNum_iff s).1 h
  have hb := valD_lt (unsg s) 0 h3
  have hb2 : valD 0 (unsg s) < 1000000000000000000 := by
    refine Nat.lt_of_lt_of_le hb ?_
    have := Nat.pow_le_pow_right (n := 10) (by omega) h2
    omega
  by_cases hs : s.head? = some 45
  · have eu : unsg s = s.tail := by unfold unsg; rw [if_pos hs]
    have es : s = 45 :: s.tail := by cases s with | nil => cases hs | cons c r => simp at hs; rw [hs]; rfl
    have hl : 1 < s.length := by rw [es]; rw [eu] at h1; cases hq : s.tail with | nil => exact absurd hq h1 | cons _ _ => simp
    have hne : ¬ (unsg s).head? = some 48 := fun e => h4 ⟨e, hl⟩
    have hd := dec_val _ (unsg s) rfl h1 h3 (fun e => absurd e hne)
    have hpos : valD 0 (unsg s) ≠ 0 := by
      intro e0
      rw [e0] at hd
      have : decDigits 0 = [48] := by rw [decDigits, dif_pos (by omega)]; rfl
      rw [this] at hd
      exact hne (by rw [← hd]; rfl)
    unfold numOf
    rw [if_pos hs]
    refine ⟨?_, by omega, by omega⟩
    unfold itoa
    rw [if_pos (by omega), show (-(valD 0 (unsg s) : Int)).natAbs = valD 0 (unsg s) from by omega, hd, eu]
    exact es.symm
  · have eu : unsg s = s := by unfold unsg; rw [if_neg hs]
    have hd := dec_val _ (unsg s) rfl h1 h3 (fun e => by
      rw [eu] at e ⊢
      rcases Nat.lt_or_ge 1 s.length with hl | hl
      · exact absurd ⟨by rw [eu]; exact e, hl⟩ h4
      · have : s.length ≠ 0 := fun e0 => h1 (by rw [eu]; exact List.eq_nil_of_length_eq_zero e0)
        omega)
    unfold numOf
    rw [if_neg hs]
    refine ⟨?_, by omega, by omega⟩
    unfold itoa
    rw [if_neg (by omega), Int.toNat_natCast, hd, eu]

open Go.Lib in
theorem parse_num {s : List UInt8} (h : okNum s = true) : parseIntB 64 s = .ok (numOf s) := by
  obtain ⟨h1, h2, h3, h4⟩ := (okNum_iff s).1 h
  have hb := valD_lt (unsg s) 0 h3
  have hb2 : valD 0 (unsg s) < 1000000000000000000 := by
    refine Nat.lt_of_lt_of_le hb ?_
    have := Nat.pow_le_pow_right (n := 10) (by omega) h2
    omega
  have hp : parseUintB 64 (unsg s) = .ok (valD 0 (unsg s)) := by
    unfold parseUintB
    rw [if_neg h1]
    exact parse_dig _ _ 0 h3 (by omega) (by omega)
  by_cases hs : s.head? = some 45
  · have eu : unsg s = s.tail := by unfold unsg; rw [if_pos hs]
    have es : s = 45 :: s.tail := by cases s with | nil => cases hs | cons c r => simp at hs; rw [hs]; rfl
    rw [eu] at hp hb2
    unfold numOf
    rw [if_pos hs, eu]
    conv => lhs; rw [es]
    rw [parseIntB_minus, hp, signedC, if_neg (by omega)]
  · have eu : unsg s = s := by unfold unsg; rw [if_neg hs]
    rw [eu] at hp hb2 h1 h3
    unfold numOf
    rw [if_neg hs, eu]
    cases s with
    | nil => exact absurd rfl h1
    | cons c r =>
      rw [List.all_cons, Bool.and_eq_true] at h3
      have hc : 48 ≤ c.toNat ∧ c.toNat ≤ 57 := isDg_iff.1 h3.1
      rw [parseIntB_plain 64 c r (by omega) (by omega), hp, signlessC, if_neg (by omega)]

open Go.Lib in
theorem numR_eq (s : List UInt8) : numR s = numC s := by
  unfold numC
  by_cases h : okNum s = true
  · rw [if_pos h]
    unfold numR
    rw [parse_num h]
    exact if_pos ⟨(itoa_num h).1, ((okNum_iff s).1 h).2.1⟩
  · rw [if_neg h]
    unfold numR
    split
    · rename_i v hv
      rw [if_neg]
      rintro ⟨h1, h2⟩
      have hb := parseIntB_bounds hv
      apply h
      have hsm : -1000000000000000000 < v ∧ v < 1000000000000000000 := by
        have hk : ∀ n : Nat, (decDigits n).length ≤ 18 → n < 1000000000000000000 := by
          intro n hn
          rw [decDigits_length] at hn
          have := lt_pow_nDigits n
          have h5 := Nat.pow_le_pow_right (n := 10) (by omega) hn
          omega
        by_cases hv0 : v < 0
        · have e : itoa v = 45 :: decDigits v.natAbs := by unfold itoa; rw [if_pos hv0]
          have : unsg s = decDigits v.natAbs := by rw [← h1, e]; rfl
          rw [this] at h2
          have := hk _ h2
          omega
        · have e : itoa v = decDigits v.toNat := by unfold itoa; rw [if_neg hv0]
          have : unsg s = decDigits v.toNat := by rw [← h1, e]; unfold unsg; rw [if_neg (dig_head (dec_dig _).1)]
          rw [this] at h2
          have := hk _ h2
          omega
      rw [← h1]
      exact (okNum_itoa hsm).1
    · rfl

open Go.Lib in
/-- A text divided at each byte c. -/
def splitR (c : UInt8) : List UInt8 → List (List UInt8)
  | [] => [[]]
  | b :: l => if b = c then [] :: splitR c l else match splitR c l with
    | p :: r => (b :: p) :: r
    | [] => [[b]]

open Go.Lib in
theorem splitR_nil (c : UInt8) : splitR c [] = [[]] := by rw [splitR]

open Go.Lib in
theorem splitR_eq (c : UInt8) (l : List UInt8) : splitR c (c :: l) = [] :: splitR c l := by rw [splitR, if_pos rfl]

open Go.Lib in
theorem splitR_ne {b c : UInt8} (h : ¬ b = c) {l p : List UInt8} {r : List (List UInt8)} (e : splitR c l = p :: r) : splitR c (b :: l) = (b :: p) :: r := by rw [splitR, if_neg h, e]

open Go.Lib in
theorem splitR_some (c : UInt8) (l : List UInt8) : ∃ p r, splitR c l = p :: r := by
  cases l with
  | nil => exact ⟨_, _, splitR_nil c⟩
  | cons b l =>
    by_cases h : b = c
    · subst h; exact ⟨_, _, splitR_eq b l⟩
    · rw [splitR, if_neg h]
      split
      · exact ⟨_, _, rfl⟩
      · exact ⟨_, _, rfl⟩

open Go.Lib in
theorem index_one_ne {b c : UInt8} (l : List UInt8) (h : ¬ b = c) : index (b :: l) [c] = if index l [c] == -1 then -1 else index l [c] + 1 := by
  have hp : ([c] : List UInt8).isPrefixOf (b :: l) = false := by simp [List.isPrefixOf]; exact fun e => h e.symm
  rw [index, hp]; simp

open Go.Lib in
theorem index_one_eq (c : UInt8) (l : List UInt8) : index (c :: l) [c] = 0 := by rw [index]; simp [List.isPrefixOf]

open Go.Lib in
theorem split_one (c : UInt8) : ∀ s : List UInt8, splitK [c] 0 (count s [c]) s = splitR c s
  | [] => by rw [count_miss (by simp [index]), splitR_nil]; rfl
  | b :: l => by
    have ih := split_one c l
    by_cases h : b = c
    · subst h
      rw [count_cons_eq, Nat.add_comm, splitK, if_neg (by rw [index_one_eq]; decide), index_one_eq, splitR_eq, ← ih]
      simp
    · rw [count_cons_ne b c l h]
      cases hk : count l [c] with
      | zero =>
        rw [hk] at ih
        have e : splitR c l = l :: [] := by rw [← ih]; rfl
        rw [splitR_ne h e]; rfl
      | succ k =>
        rw [hk] at ih
        obtain ⟨j, hj⟩ := index_of_count (s := l) (old := [c]) (by omega)
        have hm : ¬ (index l [c] == -1) = true := by rw [hj]; intro e; have := beq_iff_eq.1 e; omega
        rw [splitK, if_neg hm, hj] at ih
        have hj2 : index (b :: l) [c] = ((j + 1 : Nat) : Int) := by rw [index_one_ne l h, if_neg hm, hj]; omega
        rw [splitR_ne h ih.symm, splitK, if_neg (by rw [hj2]; intro e; have := beq_iff_eq.1 e; omega), hj2]
        simp

open Go.Lib in
/-- A text cut at the first byte c. -/
def cutR (c : UInt8) : List UInt8 → List UInt8 × List UInt8 × Bool
  | [] => ([], [], false)
  | b :: l => if b = c then ([], l, true) else (b :: (cutR c l).1, (cutR c l).2)

open Go.Lib in
theorem cut_one (c : UInt8) : ∀ s : List UInt8, cut s [c] = cutR c s
  | [] => by simp [cut, index, cutR]
  | b :: l => by
    have ih := cut_one c l
    unfold cut at ih ⊢
    rw [cutR]
    by_cases h : b = c
    · subst h
      rw [index_one_eq, if_pos (by decide), if_pos rfl]; simp
    · rw [if_neg h, ← ih]
      have hge := index_ge l [c]
      by_cases hm : index l [c] = -1
      · rw [index_one_ne l h, hm]; simp
      · obtain ⟨j, hj⟩ : ∃ j : Nat, index l [c] = j := ⟨(index l [c]).toNat, by omega⟩
        have hm2 : ¬ (index l [c] == -1) = true := fun e => hm (beq_iff_eq.1 e)
        have hj2 : index (b :: l) [c] = ((j + 1 : Nat) : Int) := by rw [index_one_ne l h, if_neg hm2, hj]; omega
        rw [hj2, hj, if_pos (by omega), if_pos (by omega)]
        simp

open Go.Lib in
theorem cutR_len (c : UInt8) : ∀ s : List UInt8, (cutR c s).1.length + (cutR c s).2.1.length ≤ s.length
  | [] => by simp [cutR]
  | b :: l => by
    have ih := cutR_len c l
    rw [cutR]
    split
    · simp
    · simp only [List.length_cons]; omega

open Go.Lib in
theorem splitR_no {c : UInt8} : ∀ {l : List UInt8}, c ∉ l → splitR c l = [l]
  | [], _ => splitR_nil c
  | b :: l, h => by
    have h1 := splitR_no (c := c) (l := l) fun hm => h (List.mem_cons_of_mem _ hm)
    exact splitR_ne (fun e => h (by rw [e]; exact List.mem_cons_self)) h1

open Go.Lib in
theorem splitR_app {c : UInt8} {r : List UInt8} : ∀ {p : List UInt8}, c ∉ p → splitR c (p ++ c :: r) = p :: splitR c r
  | [], _ => splitR_eq c r
  | b :: l, h => splitR_ne (fun e => h (by rw [e]; exact List.mem_cons_self)) (splitR_app (p := l) fun hm => h (List.mem_cons_of_mem _ hm))

open Go.Lib in
/-- Pieces without c, joined by c, are divided into themselves. -/
theorem splitR_join {c : UInt8} {x : List UInt8} : ∀ {r : List (List UInt8)}, (∀ p ∈ x :: r, c ∉ p) → splitR c (join (x :: r) [c]) = x :: r
  | [], h => by rw [join_one]; exact splitR_no (h x (by simp))
  | y :: r, h => by
    have ih := splitR_join (x := y) (r := r) fun p hp => h p (List.mem_cons_of_mem _ hp)
    have e : join (x :: y :: r) [c] = x ++ c :: join (y :: r) [c] := by rw [join_cons, join_cons]; simp [joinTail]
    rw [e, splitR_app (h x (by simp)), ih]

open Go.Lib in
/-- .. and the other way. -/
theorem join_splitR (c : UInt8) : ∀ l : List UInt8, join (splitR c l) [c] = l ∧ ∀ p ∈ splitR c l, c ∉ p
  | [] => by rw [splitR_nil]; exact ⟨join_one _ _, by simp⟩
  | b :: l => by
    obtain ⟨h1, h2⟩ := join_splitR c l
    obtain ⟨p, r, e⟩ := splitR_some c l
    by_cases h : b = c
    · subst h
      rw [splitR_eq]
      refine ⟨?_, fun q hq => ?_⟩
      · rw [e] at h1 ⊢
        rw [join_cons] at h1 ⊢
        simp only [joinTail, List.map_cons, List.flatten_cons, List.nil_append, List.cons_append] at h1 ⊢
        rw [h1]
      · rcases List.mem_cons.1 hq with rfl | hq
        · simp
        · exact h2 q hq
    · rw [splitR_ne h e]
      rw [e] at h1 h2
      refine ⟨?_, fun q hq => ?_⟩
      · rw [join_cons] at h1 ⊢
        rw [List.cons_append, h1]
      · rcases List.mem_cons.1 hq with rfl | hq
        · intro hm
          rcases List.mem_cons.1 hm with hm | hm
          · exact h hm.symm
          · exact h2 p (by simp) hm
        · exact h2 q (List.mem_cons_of_mem _ hq)

open Go.Lib in
theorem splitR_len (c : UInt8) : ∀ l : List UInt8, (splitR c l).length ≤ l.length + 1 ∧ 1 ≤ (splitR c l).length
  | [] => by rw [splitR_nil]; simp
  | b :: l => by
    obtain ⟨h1, h2⟩ := splitR_len c l
    obtain ⟨p, r, e⟩ := splitR_some c l
    by_cases h : b = c
    · subst h; rw [splitR_eq]; simp only [List.length_cons]; omega
    · rw [splitR_ne h e]; rw [e] at h1 h2; simp only [List.length_cons] at h1 h2 ⊢; omega

open Go.Lib in
theorem splitR_piece (c : UInt8) : ∀ (l : List UInt8), ∀ p ∈ splitR c l, p.length ≤ l.length
  | [], p, hp => by rw [splitR_nil] at hp; rw [List.mem_singleton.1 hp]; simp
  | b :: l, p, hp => by
    obtain ⟨q, r, e⟩ := splitR_some c l
    by_cases h : b = c
    · subst h
      rw [splitR_eq] at hp
      rcases List.mem_cons.1 hp with rfl | hp
      · simp
      · have := splitR_piece b l p hp; simp only [List.length_cons]; omega
    · rw [splitR_ne h e] at hp
      rcases List.mem_cons.1 hp with rfl | hp
      · have := splitR_piece c l q (by rw [e]; simp); simp only [List.length_cons]; omega
      · have := splitR_piece c l p (by rw [e]; exact List.mem_cons_of_mem _ hp); simp only [List.length_cons]; omega

open Go.Lib in
theorem cutR_no {c : UInt8} : ∀ {l : List UInt8}, c ∉ l → cutR c l = (l, [], false)
  | [], _ => by rw [cutR]
  | b :: l, h => by rw [cutR, if_neg (fun e => h (by rw [e]; exact List.mem_cons_self)), cutR_no (l := l) fun hm => h (List.mem_cons_of_mem _ hm)]

open Go.Lib in
theorem cutR_app {c : UInt8} {r : List UInt8} : ∀ {p : List UInt8}, c ∉ p → cutR c (p ++ c :: r) = (p, r, true)
  | [], _ => by rw [List.nil_append, cutR, if_pos rfl]
  | b :: l, h => by rw [List.cons_append, cutR, if_neg (fun e => h (by rw [e]; exact List.mem_cons_self)), cutR_app (p := l) fun hm => h (List.mem_cons_of_mem _ hm)]

open Go.Lib in
def IfVar (w : World) (n : String) : Prop := ∃ tp p, w.var? Tryd.prog n = some #[.iface tp p]

open Go.Lib in
def MaxAt (w : World) : Prop := ∃ m, w.cell? ⟨0, 0, none⟩ = some (.int .i64 m)

open Go.Lib in
/-- What the library's readers look up. -/
def Glob2 (w : World) : Prop := Glob w ∧ (IfVar w "strconv.ErrSyntax" ∧ IfVar w "strconv.ErrRange") ∧ MaxAt w

open Go.Lib in
theorem synNum : Tryd.prog.globalNamed "strconv.ErrSyntax" = some 3 := by kernel_rfl

open Go.Lib in
theorem rngNum : Tryd.prog.globalNamed "strconv.ErrRange" = some 4 := by kernel_rfl

open Go.Lib in
theorem ifvar_below {w w' : World} {n : String} {g : Nat} (hg : Tryd.prog.globalNamed n = some g) (h : IfVar w n) (hb : Below w.heap.size w w') : IfVar w' n := by
  obtain ⟨tp, p, h⟩ := h
  refine ⟨tp, p, ?_⟩
  unfold World.var? at h ⊢
  rw [hg] at h ⊢
  simp only [Option.bind_some] at h ⊢
  have hlt : g < w.heap.size := by
    rcases Nat.lt_or_ge g w.heap.size with hlt | hge
    · exact hlt
    · rw [Array.getElem?_eq_none hge] at h; cases h
  rw [hb.block g hlt]
  exact h

open Go.Lib in
theorem max_below {w w' : World} (h : MaxAt w) (hb : Below w.heap.size w w') : MaxAt w' := by
  obtain ⟨m, h⟩ := h
  refine ⟨m, ?_⟩
  unfold World.cell? at h ⊢
  have hlt : 0 < w.heap.size := by
    rcases Nat.lt_or_ge 0 w.heap.size with hlt | hge
    · exact hlt
    · rw [Array.getElem?_eq_none hge] at h; cases h
  rw [hb.block _ hlt]
  exact h

open Go.Lib in
theorem Held.glob2 {w0 w : World} {rs : List Res} (h : Held Nob w0 rs w) (hG : Glob2 w0) : Glob2 w := ⟨h.glob hG.1, ⟨ifvar_below synNum hG.2.1.1 h.below, ifvar_below rngNum hG.2.1.2 h.below⟩, max_below hG.2.2 h.below⟩

open Go.Lib in
def shelf_C174_ren : Go.Shelf.Ren := ⟨fun | 174 => 53 | 247 => 73 | 245 => 74 | 287 => 94 | 279 => 95 | 280 => 96 | 281 => 97 | 282 => 98 | 321 => 107 | 322 => 108 | 316 => 109 | 171 => 111 | 205 => 110 | 243 => 116 | 246 => 99 | 283 => 112 | 284 => 113 | 285 => 114 | 286 => 115 | 129 => 118 | 317 => 117 | 318 => 119 | 319 => 120 | 320 => 121 | 337 => 122 | 338 => 123 | n => n, fun | 9 => 9 | 3 => 3 | 2 => 2 | 75 => 76 | 85 => 77 | 4 => 4 | 167 => 116 | 5 => 5 | 53 => 117 | 175 => 118 | 46 => 115 | 168 => 120 | 37 => 92 | 0 => 0 | 210 => 138 | 21 => 21 | 127 => 113 | 145 => 148 | 143 => 146 | 171 => 141 | 173 => 144 | 212 => 150 | 51 => 132 | 20 => 20 | 213 => 151 | 232 => 155 | 233 => 156 | 80 => 100 | n => n, fun | 15 => 3 | 16 => 4 | 17 => 5 | 18 => 6 | 19 => 7 | n => n⟩

open Go.Lib in
theorem shelf_C174 : Go.Proofs.LaysC.n174 Tryd.prog shelf_C174_ren := {
  mixed := by kernel_rfl
  f129 := Tryd.func118.trans (congrArg some (by kernel_rfl))
  f171 := Tryd.func111.trans (congrArg some (by kernel_rfl))
  f174 := Tryd.func53.trans (congrArg some (by kernel_rfl))
  f205 := Tryd.func110.trans (congrArg some (by kernel_rfl))
  f243 := Tryd.func116.trans (congrArg some (by kernel_rfl))
  f245 := Tryd.func74.trans (congrArg some (by kernel_rfl))
  f246 := Tryd.func99.trans (congrArg some (by kernel_rfl))
  f247 := Tryd.func73.trans (congrArg some (by kernel_rfl))
  f279 := Tryd.func95.trans (congrArg some (by kernel_rfl))
  f280 := Tryd.func96.trans (congrArg some (by kernel_rfl))
  f281 := Tryd.func97.trans (congrArg some (by kernel_rfl))
  f282 := Tryd.func98.trans (congrArg some (by kernel_rfl))
  f283 := Tryd.func112.trans (congrArg some (by kernel_rfl))
  f284 := Tryd.func113.trans (congrArg some (by kernel_rfl))
  f285 := Tryd.func114.trans (congrArg some (by kernel_rfl))
  f286 := Tryd.func115.trans (congrArg some (by kernel_rfl))
  f287 := Tryd.func94.trans (congrArg some (by kernel_rfl))
  f316 := Tryd.func109.trans (congrArg some (by kernel_rfl))
  f317 := Tryd.func117.trans (congrArg some (by kernel_rfl))
  f318 := Tryd.func119.trans (congrArg some (by kernel_rfl))
  f319 := Tryd.func120.trans (congrArg some (by kernel_rfl))
  f320 := Tryd.func121.trans (congrArg some (by kernel_rfl))
  f321 := Tryd.func107.trans (congrArg some (by kernel_rfl))
  f322 := Tryd.func108.trans (congrArg some (by kernel_rfl))
  f337 := Tryd.func122.trans (congrArg some (by kernel_rfl))
  f338 := Tryd.func123.trans (congrArg some (by kernel_rfl))
  t0 := Tryd.underlying0
  a0 := Tryd.isAgg0
  z0 := Tryd.sizeOf0
  v0 := Tryd.zeroValue0
  t2 := Tryd.underlying2
  a2 := Tryd.isAgg2
  z2 := Tryd.sizeOf2
  v2 := Tryd.zeroValue2
  t3 := Tryd.underlying3
  a3 := Tryd.isAgg3
  z3 := Tryd.sizeOf3
  v3 := Tryd.zeroValue3
  t4 := Tryd.underlying4
  a4 := Tryd.isAgg4
  z4 := Tryd.sizeOf4
  v4 := Tryd.zeroValue4
  t5 := Tryd.underlying5
  a5 := Tryd.isAgg5
  z5 := Tryd.sizeOf5
  v5 := Tryd.zeroValue5
  t9 := Tryd.underlying9
  a9 := Tryd.isAgg9
  z9 := Tryd.sizeOf9
  v9 := Tryd.zeroValue9
  t20 := Tryd.underlying20
  a20 := Tryd.isAgg20
  z20 := Tryd.sizeOf20
  v20 := Tryd.zeroValue20
  t21 := Tryd.underlying21
  a21 := Tryd.isAgg21
  z21 := Tryd.sizeOf21
  v21 := Tryd.zeroValue21
  t37 := Tryd.underlying92
  a37 := Tryd.isAgg92
  z37 := Tryd.sizeOf92
  v37 := Tryd.zeroValue92
  t46 := Tryd.underlying115
  a46 := Tryd.isAgg115
  z46 := Tryd.sizeOf115
  v46 := Tryd.zeroValue115
  t51 := Tryd.underlying132
  a51 := Tryd.isAgg132
  z51 := Tryd.sizeOf132
  v51 := Tryd.zeroValue132
  t53 := Tryd.underlying117
  a53 := Tryd.isAgg117
  z53 := Tryd.sizeOf117
  v53 := Tryd.zeroValue117
  t75 := Tryd.underlying76
  a75 := Tryd.isAgg76
  z75 := Tryd.sizeOf76
  v75 := Tryd.zeroValue76
  t85 := Tryd.underlying77
  a85 := Tryd.isAgg77
  z85 := Tryd.sizeOf77
  v85 := Tryd.zeroValue77
  t127 := Tryd.underlying113
  a127 := Tryd.isAgg113
  z127 := Tryd.sizeOf113
  v127 := Tryd.zeroValue113
  t143 := Tryd.underlying146
  a143 := Tryd.isAgg146
  z143 := Tryd.sizeOf146
  v143 := Tryd.zeroValue146
  t145 := Tryd.underlying148
  a145 := Tryd.isAgg148
  z145 := Tryd.sizeOf148
  v145 := Tryd.zeroValue148
  t167 := Tryd.underlying116
  a167 := Tryd.isAgg116
  z167 := Tryd.sizeOf116
  v167 := Tryd.zeroValue116
  t168 := Tryd.underlying120
  a168 := Tryd.isAgg120
  z168 := Tryd.sizeOf120
  v168 := Tryd.zeroValue120
  t171 := Tryd.underlying141
  a171 := Tryd.isAgg141
  z171 := Tryd.sizeOf141
  v171 := Tryd.zeroValue141
  t173 := Tryd.underlying144
  a173 := Tryd.isAgg144
  z173 := Tryd.sizeOf144
  v173 := Tryd.zeroValue144
  t175 := Tryd.underlying118
  a175 := Tryd.isAgg118
  z175 := Tryd.sizeOf118
  v175 := Tryd.zeroValue118
  t210 := Tryd.underlying138
  a210 := Tryd.isAgg138
  z210 := Tryd.sizeOf138
  v210 := Tryd.zeroValue138
  t212 := Tryd.underlying150
  a212 := Tryd.isAgg150
  z212 := Tryd.sizeOf150
  v212 := Tryd.zeroValue150
  t213 := Tryd.underlying151
  a213 := Tryd.isAgg151
  z213 := Tryd.sizeOf151
  t232 := Tryd.underlying155
  a232 := Tryd.isAgg155
  z232 := Tryd.sizeOf155
  v232 := Tryd.zeroValue155
  t233 := Tryd.underlying156
  a233 := Tryd.isAgg156
  z233 := Tryd.sizeOf156
  v233 := Tryd.zeroValue156
  g15 := by kernel_rfl
  g16 := by kernel_rfl
  g17 := by kernel_rfl
  g18 := by kernel_rfl
  g19 := by kernel_rfl
  t80 := Tryd.underlying100
  a80 := Tryd.isAgg100
  z80 := Tryd.sizeOf100
  v80 := Tryd.zeroValue100
  i0 := by kernel_rfl
  i2 := by kernel_rfl
  i3 := by kernel_rfl
  i4 := by kernel_rfl
  i5 := by kernel_rfl
  i9 := by kernel_rfl
  i20 := by kernel_rfl
  i21 := by kernel_rfl
  i37 := by kernel_rfl
  i46 := by kernel_rfl
  i51 := by kernel_rfl
  i53 := by kernel_rfl
  i75 := by kernel_rfl
  i80 := by kernel_rfl
  i85 := by kernel_rfl
  i127 := by kernel_rfl
  i143 := by kernel_rfl
  i145 := by kernel_rfl
  i167 := by kernel_rfl
  i168 := by kernel_rfl
  i171 := by kernel_rfl
  i173 := by kernel_rfl
  i175 := by kernel_rfl
  i210 := by kernel_rfl
  i212 := by kernel_rfl
  i232 := by kernel_rfl
  i233 := by kernel_rfl
  m15 := by kernel_rfl
  m16 := by kernel_rfl
  m17 := by kernel_rfl
  m18 := by kernel_rfl
  m19 := by kernel_rfl
  c0 := by kernel_rfl
  c2 := by kernel_rfl
  c3 := by kernel_rfl
  c4 := by kernel_rfl
  c5 := by kernel_rfl
  c9 := by kernel_rfl
  c20 := by kernel_rfl
  c21 := by kernel_rfl
  c37 := by kernel_rfl
  c46 := by kernel_rfl
  c51 := by kernel_rfl
  c53 := by kernel_rfl
  c75 := by kernel_rfl
  c80 := by kernel_rfl
  c85 := by kernel_rfl
  c127 := by kernel_rfl
  c143 := by kernel_rfl
  c145 := by kernel_rfl
  c167 := by kernel_rfl
  c168 := by kernel_rfl
  c171 := by kernel_rfl
  c173 := by kernel_rfl
  c175 := by kernel_rfl
  c210 := by kernel_rfl
  c212 := by kernel_rfl
  c213 := by kernel_rfl
  c232 := by kernel_rfl
  c233 := by kernel_rfl }

open Go.Lib in
def shelf_146_ren : Go.Shelf.Ren := ⟨fun | 146 => 35 | 221 => 51 | 268 => 71 | 138 => 65 | 143 => 67 | 195 => 85 | 197 => 69 | 218 => 86 | 219 => 72 | 260 => 89 | 217 => 90 | 225 => 91 | 224 => 92 | 267 => 93 | 266 => 105 | 314 => 106 | n => n, fun | 9 => 9 | 31 => 43 | 3 => 3 | 4 => 4 | 0 => 0 | 105 => 98 | 21 => 21 | 5 => 5 | 46 => 115 | 119 => 128 | 139 => 131 | 138 => 130 | 146 => 133 | 51 => 132 | n => n, fun | 1 => 0 | 3 => 1 | 4 => 2 | n => n⟩

open Go.Lib in
theorem shelf_146 : Go.Proofs.Lays.n146 Tryd.prog shelf_146_ren := {
  mixed := by kernel_rfl
  f138 := Tryd.func65.trans (congrArg some (by kernel_rfl))
  f143 := Tryd.func67.trans (congrArg some (by kernel_rfl))
  f146 := Tryd.func35.trans (congrArg some (by kernel_rfl))
  f195 := Tryd.func85.trans (congrArg some (by kernel_rfl))
  f197 := Tryd.func69.trans (congrArg some (by kernel_rfl))
  f217 := Tryd.func90.trans (congrArg some (by kernel_rfl))
  f218 := Tryd.func86.trans (congrArg some (by kernel_rfl))
  f219 := Tryd.func72.trans (congrArg some (by kernel_rfl))
  f221 := Tryd.func51.trans (congrArg some (by kernel_rfl))
  f224 := Tryd.func92.trans (congrArg some (by kernel_rfl))
  f225 := Tryd.func91.trans (congrArg some (by kernel_rfl))
  f260 := Tryd.func89.trans (congrArg some (by kernel_rfl))
  f266 := Tryd.func105.trans (congrArg some (by kernel_rfl))
  f267 := Tryd.func93.trans (congrArg some (by kernel_rfl))
  f268 := Tryd.func71.trans (congrArg some (by kernel_rfl))
  f314 := Tryd.func106.trans (congrArg some (by kernel_rfl))
  t0 := Tryd.underlying0
  a0 := Tryd.isAgg0
  z0 := Tryd.sizeOf0
  v0 := Tryd.zeroValue0
  t3 := Tryd.underlying3
  a3 := Tryd.isAgg3
  z3 := Tryd.sizeOf3
  v3 := Tryd.zeroValue3
  t4 := Tryd.underlying4
  a4 := Tryd.isAgg4
  z4 := Tryd.sizeOf4
  v4 := Tryd.zeroValue4
  t5 := Tryd.underlying5
  a5 := Tryd.isAgg5
  z5 := Tryd.sizeOf5
  v5 := Tryd.zeroValue5
  t9 := Tryd.underlying9
  a9 := Tryd.isAgg9
  z9 := Tryd.sizeOf9
  v9 := Tryd.zeroValue9
  t21 := Tryd.underlying21
  a21 := Tryd.isAgg21
  z21 := Tryd.sizeOf21
  v21 := Tryd.zeroValue21
  t31 := Tryd.underlying43
  a31 := Tryd.isAgg43
  z31 := Tryd.sizeOf43
  v31 := Tryd.zeroValue43
  t46 := Tryd.underlying115
  a46 := Tryd.isAgg115
  z46 := Tryd.sizeOf115
  v46 := Tryd.zeroValue115
  t51 := Tryd.underlying132
  a51 := Tryd.isAgg132
  z51 := Tryd.sizeOf132
  v51 := Tryd.zeroValue132
  t105 := Tryd.underlying98
  a105 := Tryd.isAgg98
  z105 := Tryd.sizeOf98
  v105 := Tryd.zeroValue98
  t119 := Tryd.underlying128
  a119 := Tryd.isAgg128
  z119 := Tryd.sizeOf128
  t138 := Tryd.underlying130
  a138 := Tryd.isAgg130
  z138 := Tryd.sizeOf130
  v138 := Tryd.zeroValue130
  t139 := Tryd.underlying131
  a139 := Tryd.isAgg131
  z139 := Tryd.sizeOf131
  v139 := Tryd.zeroValue131
  t146 := Tryd.underlying133
  a146 := Tryd.isAgg133
  z146 := Tryd.sizeOf133
  v146 := Tryd.zeroValue133
  g1 := by kernel_rfl
  g3 := by kernel_rfl
  g4 := by kernel_rfl }

open Go.Lib in
def shelf_145_ren : Go.Shelf.Ren := ⟨fun | 145 => 36 | 220 => 52 | 219 => 72 | 217 => 90 | 225 => 91 | 224 => 92 | 267 => 93 | 266 => 105 | 314 => 106 | n => n, fun | 9 => 9 | 4 => 4 | 59 => 59 | 3 => 3 | 5 => 5 | 46 => 115 | 146 => 133 | 51 => 132 | n => n, fun | 1 => 0 | n => n⟩

open Go.Lib in
theorem shelf_145 : Go.Proofs.Lays.n145 Tryd.prog shelf_145_ren := {
  mixed := by kernel_rfl
  f145 := Tryd.func36.trans (congrArg some (by kernel_rfl))
  f217 := Tryd.func90.trans (congrArg some (by kernel_rfl))
  f219 := Tryd.func72.trans (congrArg some (by kernel_rfl))
  f220 := Tryd.func52.trans (congrArg some (by kernel_rfl))
  f224 := Tryd.func92.trans (congrArg some (by kernel_rfl))
  f225 := Tryd.func91.trans (congrArg some (by kernel_rfl))
  f266 := Tryd.func105.trans (congrArg some (by kernel_rfl))
  f267 := Tryd.func93.trans (congrArg some (by kernel_rfl))
  f314 := Tryd.func106.trans (congrArg some (by kernel_rfl))
  t3 := Tryd.underlying3
  a3 := Tryd.isAgg3
  z3 := Tryd.sizeOf3
  v3 := Tryd.zeroValue3
  t4 := Tryd.underlying4
  a4 := Tryd.isAgg4
  z4 := Tryd.sizeOf4
  v4 := Tryd.zeroValue4
  t5 := Tryd.underlying5
  a5 := Tryd.isAgg5
  z5 := Tryd.sizeOf5
  v5 := Tryd.zeroValue5
  t9 := Tryd.underlying9
  a9 := Tryd.isAgg9
  z9 := Tryd.sizeOf9
  v9 := Tryd.zeroValue9
  t46 := Tryd.underlying115
  a46 := Tryd.isAgg115
  z46 := Tryd.sizeOf115
  v46 := Tryd.zeroValue115
  t51 := Tryd.underlying132
  a51 := Tryd.isAgg132
  z51 := Tryd.sizeOf132
  v51 := Tryd.zeroValue132
  t59 := Tryd.underlying59
  a59 := Tryd.isAgg59
  z59 := Tryd.sizeOf59
  v59 := Tryd.zeroValue59
  t146 := Tryd.underlying133
  a146 := Tryd.isAgg133
  z146 := Tryd.sizeOf133
  v146 := Tryd.zeroValue133
  g1 := by kernel_rfl }

open Go.Lib in
def shelf_101_ren : Go.Shelf.Ren := ⟨fun | 101 => 55 | 208 => 76 | 206 => 100 | n => n, fun | 9 => 9 | 4 => 4 | 3 => 3 | n => n, fun | n => n⟩

open Go.Lib in
theorem shelf_101 : Go.Proofs.Lays.n101 Tryd.prog shelf_101_ren := {
  mixed := by kernel_rfl
  f101 := Tryd.func55.trans (congrArg some (by kernel_rfl))
  f206 := Tryd.func100.trans (congrArg some (by kernel_rfl))
  f208 := Tryd.func76.trans (congrArg some (by kernel_rfl))
  t3 := Tryd.underlying3
  a3 := Tryd.isAgg3
  z3 := Tryd.sizeOf3
  v3 := Tryd.zeroValue3
  t4 := Tryd.underlying4
  a4 := Tryd.isAgg4
  z4 := Tryd.sizeOf4
  v4 := Tryd.zeroValue4
  t9 := Tryd.underlying9
  a9 := Tryd.isAgg9
  z9 := Tryd.sizeOf9
  v9 := Tryd.zeroValue9 }

open Go.Lib in
def shelf_103_ren : Go.Shelf.Ren := ⟨fun | 103 => 62 | 210 => 80 | 206 => 100 | n => n, fun | 9 => 9 | 4 => 4 | 24 => 87 | 3 => 3 | n => n, fun | n => n⟩

open Go.Lib in
theorem shelf_103 : Go.Proofs.Lays.n103 Tryd.prog shelf_103_ren := {
  mixed := by kernel_rfl
  f103 := Tryd.func62.trans (congrArg some (by kernel_rfl))
  f206 := Tryd.func100.trans (congrArg some (by kernel_rfl))
  f210 := Tryd.func80.trans (congrArg some (by kernel_rfl))
  t3 := Tryd.underlying3
  a3 := Tryd.isAgg3
  z3 := Tryd.sizeOf3
  v3 := Tryd.zeroValue3
  t4 := Tryd.underlying4
  a4 := Tryd.isAgg4
  z4 := Tryd.sizeOf4
  v4 := Tryd.zeroValue4
  t9 := Tryd.underlying9
  a9 := Tryd.isAgg9
  z9 := Tryd.sizeOf9
  v9 := Tryd.zeroValue9
  t24 := Tryd.underlying87
  a24 := Tryd.isAgg87
  z24 := Tryd.sizeOf87
  v24 := Tryd.zeroValue87 }

open Go.Lib in
/-- An error value that is nil or not. -/
def IsErr (v : Value) (b : Bool) : Prop := if b = true then ∃ t x, v = .iface t x else v = .nilIface

open Go.Lib in
theorem x_neqNil {P : Program} {S : World → Prop} {L : List (Nat × Value)} {d : Option Tmp} {t t' : TypeId} {x : Operand} {v : Value} {r : Bool} {ty : TypeId} {pos : String} {af : Array Edge} {g : Option (Nat × Bool)} (hv : IsErr v r) (hi : P.isIface t = true) (hx : ev L x = some v) : XS P S L ⟨d, .binOp .neq t x (.const .nilIface) t', ty, pos, af, g⟩ (.bool r) := fun _ a w hE _ => by
  have hn : a.eval (.const .nilIface) = Value.nilIface := rfl
  cases r with
  | true =>
    obtain ⟨u, y, rfl⟩ := hv
    have hg : (eqGuard .neq t x (.const .nilIface) (.iface u y) .nilIface).run P w = .ok () w := rfl
    simp only [execOp, hE.ev hx, hn, Sem.run_bind, hg, Result.andThen_ok, run_neq_iface_nil w t hi u y, Sem.run_pure]
  | false =>
    obtain rfl := hv
    have hg : (eqGuard .neq t x (.const .nilIface) .nilIface .nilIface).run P w = .ok () w := by
      cases x <;> rfl
    simp only [execOp, hE.ev hx, hn, Sem.run_bind, hg, Result.andThen_ok, run_neq_nil_nil_at w t hi, Sem.run_pure]

open Go.Lib in
def parI (s : List UInt8) : Int × Bool := match parseIntB 64 s with
  | .ok v => (v, false)
  | .range => (Go.Lib.intSat 64 s, true)
  | _ => (0, true)

open Go.Lib in
theorem bs_list (s : List UInt8) : (bs s).data.toList = s := by simp [bs]

open Go.Lib in
theorem ParseInt_64 (a0 : List UInt8) (a1 a2 : Int) (w : World) (hG : Glob2 w) (s0 : a0.length ≤ 1000000000) (s1 : a1 = 10) (s2 : a2 = 64) :
    Calls Tryd.prog 53 #[.string (bs a0), .int .i64 a1, .int .i64 a2] w fun e w' => ∃ er, e = .returned (.tuple #[.int .i64 (parI a0).1, er]) ∧ IsErr er (parI a0).2 ∧ Below w.heap.size w w' := by
  subst s1; subst s2
  have hz := bs_size a0
  have hl := bs_list a0
  cases hp : parseIntB 64 a0 with
  | ok v =>
    refine (show Calls Tryd.prog 53 #[.string (bs a0), .int .i64 10, .int .i64 64] w _ from Any.strconv_ParseInt_10_at64_ok shelf_C174 (bs a0) (by omega) v (by rw [hl]; exact hp) w).mono ?_
    rintro e w' ⟨rfl, h⟩
    unfold parI; rw [hp]
    refine ⟨_, rfl, rfl, ?_⟩
    rcases h with rfl | ⟨t, rfl⟩
    · exact Below.refl _ _
    · exact Go.Lib.bytesWorld_below _ _ _
  | range =>
    obtain ⟨tp, p, hv⟩ := hG.2.1.2
    refine (show Calls Tryd.prog 53 #[.string (bs a0), .int .i64 10, .int .i64 64] w _ from Any.strconv_ParseInt_10_at64_range_var shelf_C174 (bs a0) (by omega) (by rw [hl]; exact hp) tp p w hv).mono ?_
    rintro e w' ⟨N, rfl, _, _, h⟩
    unfold parI; rw [hp]
    rw [hl]
    exact ⟨_, rfl, ⟨_, _, rfl⟩, h⟩
  | _ =>
    obtain ⟨tp, p, hv⟩ := hG.2.1.1
    refine (show Calls Tryd.prog 53 #[.string (bs a0), .int .i64 10, .int .i64 64] w _ from Any.strconv_ParseInt_10_at64_syntax_var shelf_C174 (bs a0) (by omega) (by rw [hl]; exact hp) tp p w hv).mono ?_
    rintro e w' ⟨N, rfl, _, _, h⟩
    unfold parI; rw [hp]
    exact ⟨_, rfl, ⟨_, _, rfl⟩, h⟩

open Go.Lib in
theorem so_txt_alloc (w : World) (t : TypeId) (xs : List (List UInt8)) (h : ∀ x ∈ xs, x.length ≤ 9223372036854775807) (hl : xs.length ≤ 1000000000000) : So eTxt (w.alloc (.cells (xs.map fun x => Value.string (bs x)).toArray t)) (Fr w (w.alloc (.cells (xs.map fun x => Value.string (bs x)).toArray t))) (some ⟨w.heap.size, 0, none⟩) xs.length xs := by
  refine ⟨Nat.le_refl _, by unfold maxLen; omega, fun _ => ⟨w.heap.size, 0, t, (xs.map fun x => Value.string (bs x)).toArray, fun _ _ => False, rfl, ⟨Nat.le_refl _, by simp⟩, Blk.new _ _ _, fun _ _ h => h.elim, fun _ _ _ h => h.elim, fun i x hx => ⟨[.string (bs x)], ⟨rfl, h x (List.mem_of_getElem? hx)⟩, fun j v hj => ?_⟩⟩⟩
  match j, hj with
  | 0, hj =>
    simp only [List.getElem?_cons_zero, Option.some.injEq] at hj
    subst hj
    simp [eTxt, hx]

open Go.Lib in
theorem split_bs (c : UInt8) (s : List UInt8) : (splitB (bs [c]) 0 (countB (bs s) (bs [c])) (bs s)).map Value.string = (splitR c s).map fun x => Value.string (bs x) := by
  have h1 := splitB_data (bs [c]) 0 (countB (bs s) (bs [c])) (bs s)
  have h2 : countB (bs s) (bs [c]) = count s [c] := by unfold countB; rw [bs_list, bs_list]
  rw [bs_list, bs_list, h2, split_one] at h1
  rw [← h1, List.map_map, h2]
  exact List.map_congr_left fun x _ => by simp [bs_eta]

open Go.Lib in
theorem split_count (c : UInt8) (s : List UInt8) : countB (bs s) (bs [c]) + 1 = (splitR c s).length := by
  have h := congrArg List.length (split_bs c s)
  rw [List.length_map, List.length_map, splitB_all (bs [c]) (by rw [bs_size]; simp) 0 _ (bs s) rfl] at h
  exact h

open Go.Lib in
theorem Split_1 (a0 a1 : List UInt8) (c : UInt8) (w : World) (hG : Glob2 w) (s0 : a0.length ≤ 1000000000) (s1 : a1 = [c]) :
    Calls Tryd.prog 35 #[.string (bs a0), .string (bs a1)] w fun e w' => ∃ A' c', e = .returned (.slice A' (splitR c a0).length c') ∧ So eTxt w' (Fr w w') A' c' (splitR c a0) ∧ Below w.heap.size w w' := by
  subst s1
  have hz := bs_size a0
  have h1 := splitR_len c a0
  obtain ⟨m, hm⟩ := hG.2.2
  refine (show Calls Tryd.prog 35 #[.string (bs a0), .string (bs [c])] w _ from Any.strings_Split shelf_146 (by kernel_rfl) (bs a0) (bs [c]) m w (by omega) hm (by rw [bs_size]; simp)).mono ?_
  rintro e w' ⟨rfl, rfl⟩
  rw [split_bs, split_count]
  exact ⟨_, _, rfl, so_txt_alloc w _ _ (fun x hx => by have := splitR_piece c a0 x hx; omega) (by omega), (Below.refl _ w).alloc (Nat.le_refl _) _⟩

open Go.Lib in
theorem Cut_1 (a0 a1 : List UInt8) (c : UInt8) (w : World) (hG : Glob2 w) (s0 : a0.length ≤ 1000000000) (s1 : a1 = [c]) :
    Calls Tryd.prog 36 #[.string (bs a0), .string (bs a1)] w fun e w' => e = .returned (.tuple #[.string (bs (cutR c a0).1), .string (bs (cutR c a0).2.1), .bool (cutR c a0).2.2]) ∧ Below w.heap.size w w' := by
  subst s1
  have hz := bs_size a0
  obtain ⟨m, hm⟩ := hG.2.2
  refine (show Calls Tryd.prog 36 #[.string (bs a0), .string (bs [c])] w _ from Any.strings_Cut shelf_145 (bs a0) (bs [c]) m w (by omega) hm).mono ?_
  rintro e w' ⟨rfl, n, rfl⟩
  rw [bs_list, bs_list, cut_one]
  exact ⟨rfl, ⟨rfl, rfl, rfl, Nat.le_refl _, fun _ _ => rfl⟩⟩

open Go.Lib in
theorem TrimMinus (a0 a1 : List UInt8) (w : World) (s1 : a1 = [45]) :
    Calls Tryd.prog 55 #[.string (bs a0), .string (bs a1)] w fun e w' => e = .returned (.string (bs (unsg a0))) ∧ Below w.heap.size w w' := by
  subst s1
  refine (show Calls Tryd.prog 55 #[.string (bs a0), .string (bs [45])] w _ from Any.strings_TrimPrefix shelf_101 (bs a0) (bs [45]) w).mono ?_
  rintro e w' ⟨rfl, rfl⟩
  refine ⟨?_, Below.refl _ _⟩
  rw [bs_list, bs_list]
  have : trimPrefix a0 [45] = unsg a0 := by
    unfold trimPrefix unsg
    cases a0 with
    | nil => simp [hasPrefix]
    | cons x r =>
      by_cases h : x = 45
      · subst h; simp [hasPrefix, List.isPrefixOf]
      · have h2 : ¬ (45 : UInt8) = x := fun e => h e.symm
        simp [hasPrefix, h, h2, List.isPrefixOf]
  rw [this]

open Go.Lib in
theorem unsg_len (s : List UInt8) : (unsg s).length ≤ s.length := by
  unfold unsg; split
  · simp
  · exact Nat.le_refl _

open Go.Lib in
theorem parI_bd {s : List UInt8} (h : (parI s).2 = false) : -9223372036854775808 ≤ (parI s).1 ∧ (parI s).1 ≤ 9223372036854775807 := by
  unfold parI at h ⊢
  cases hp : parseIntB 64 s with
  | ok v => have := parseIntB_bounds hp; rw [hp] at h; simp only; omega
  | _ => rw [hp] at h; exact absurd h (by simp)

open Go.Lib in
theorem numR_def (s : List UInt8) : numR s = if (parI s).2 = true then (0, false) else if Go.Lib.itoa (parI s).1 = s ∧ (unsg s).length ≤ 18 then ((parI s).1, true) else (0, false) := by
  unfold numR parI
  cases hp : parseIntB 64 s with
  | ok v => simp
  | _ => simp

open Go.Lib in
theorem numC_bd (s : List UInt8) : -1000000000000000000 < (numC s).1 ∧ (numC s).1 < 1000000000000000000 := by
  unfold numC
  split
  · rename_i h; exact (itoa_num h).2
  · decide

open Go.Lib in
theorem numR_bd (s : List UInt8) : -1000000000000000000 < (numR s).1 ∧ (numR s).1 < 1000000000000000000 := by rw [numR_eq]; exact numC_bd s

open Go.Lib in
def preP (p : List UInt8) : List (List UInt8) → List (List UInt8)
  | [] => [p]
  | q :: r => (p ++ q) :: r

open Go.Lib in
theorem spl_ne {c : UInt8} {s : List UInt8} {l : List (List UInt8)} {j : Int} {k : Nat} (h : splitR c s = l ++ preP ((s.drop j.toNat).take (k - j.toNat)) (splitR c (s.drop k))) (hk : k < s.length) (hj : 0 ≤ j ∧ j ≤ (k : Int)) (hn : ¬ s[k] = c) : splitR c s = l ++ preP ((s.drop j.toNat).take (k + 1 - j.toNat)) (splitR c (s.drop (k + 1))) := by
  rw [h]
  congr 1
  obtain ⟨p, r, e⟩ := splitR_some c (s.drop (k + 1))
  have e2 : (s.drop j.toNat).take (k + 1 - j.toNat) = (s.drop j.toNat).take (k - j.toNat) ++ [s[k]] := by
    rw [show k + 1 - j.toNat = (k - j.toNat) + 1 from by omega, List.take_succ_eq_append_getElem (by rw [List.length_drop]; omega), List.getElem_drop]
    congr 3
    omega
  rw [List.drop_eq_getElem_cons hk, splitR_ne hn e, e, e2, preP, preP]
  simp

open Go.Lib in
theorem spl_eq {c : UInt8} {s : List UInt8} {l : List (List UInt8)} {j : Int} {k : Nat} (h : splitR c s = l ++ preP ((s.drop j.toNat).take (k - j.toNat)) (splitR c (s.drop k))) (hk : k < s.length) (he : s[k] = c) : splitR c s = (l ++ [(s.drop j.toNat).take (k - j.toNat)]) ++ preP ((s.drop ((k : Int) + 1).toNat).take (k + 1 - ((k : Int) + 1).toNat)) (splitR c (s.drop (k + 1))) := by
  rw [h]
  obtain ⟨p, r, e⟩ := splitR_some c (s.drop (k + 1))
  rw [List.drop_eq_getElem_cons hk, he, splitR_eq, e, show k + 1 - ((k : Int) + 1).toNat = 0 from by omega, List.take_zero, preP, preP]
  simp

open Go.Lib in
theorem spl_end {c : UInt8} {s : List UInt8} {l : List (List UInt8)} {j : Int} {k : Nat} (h : splitR c s = l ++ preP ((s.drop j.toNat).take (k - j.toNat)) (splitR c (s.drop k))) (hk : k = s.length) : splitR c s = l ++ [s.drop j.toNat] := by
  rw [h]
  rw [List.drop_eq_nil_of_le (by omega : s.length ≤ k), splitR_nil, preP, List.append_nil, List.take_of_length_le (by rw [List.length_drop]; omega)]

open Go.Lib in
theorem spl_zero (c : UInt8) (s : List UInt8) : splitR c s = [] ++ preP ((s.drop (0 : Int).toNat).take (0 - (0 : Int).toNat)) (splitR c (s.drop 0)) := by
  obtain ⟨p, r, e⟩ := splitR_some c s
  simp [preP, e]

open Go.Lib in
/-- The place of the first digit. -/
def ofP (s : List UInt8) : Nat := if s.head? = some 45 then 1 else 0

open Go.Lib in
theorem unsg_drop (s : List UInt8) : unsg s = s.drop (ofP s) := by
  unfold unsg ofP; split
  · simp
  · rw [List.drop_zero]

open Go.Lib in
theorem ofP_neg {s : List UInt8} {e : UInt8} (h : 0 < s.length) (he : e = s[0]) (h45 : (e.toNat : Int) = 45) : ofP s = 1 := by
  have : e = 45 := UInt8.toNat_inj.1 (by have : (45 : UInt8).toNat = 45 := rfl; omega)
  unfold ofP
  cases s with
  | nil => simp at h
  | cons x r => simp only [List.getElem_cons_zero] at he; rw [← he, this]; rfl

open Go.Lib in
theorem ofP_pos {s : List UInt8} {e : UInt8} (h : 0 < s.length) (he : e = s[0]) (h45 : ¬ (e.toNat : Int) = 45) : ofP s = 0 := by
  unfold ofP
  cases s with
  | nil => simp at h
  | cons x r =>
    simp only [List.getElem_cons_zero] at he
    rw [if_neg]
    intro h2
    simp only [List.head?_cons, Option.some.injEq] at h2
    apply h45
    rw [he, h2]; rfl

open Go.Lib in
theorem ofP_nil {s : List UInt8} (h : ¬ 0 < s.length) : ofP s = 0 := by
  have : s = [] := List.eq_nil_of_length_eq_zero (by omega)
  subst this; rfl

open Go.Lib in
/-- The digits from the first one up to i. -/
def dgs (s : List UInt8) (i : Nat) : List UInt8 := (s.drop (ofP s)).take (i - ofP s)

open Go.Lib in
theorem dgs_step {s : List UInt8} {i : Nat} {e : UInt8} (h0 : ofP s ≤ i) (h1 : i < s.length) (he : e = s[i]) : dgs s (i + 1) = dgs s i ++ [e] := by
  unfold dgs
  rw [show i + 1 - ofP s = (i - ofP s) + 1 from by omega, List.take_succ_eq_append_getElem (by rw [List.length_drop]; omega), List.getElem_drop, he]
  congr 3
  omega

open Go.Lib in
theorem dgs_all {s : List UInt8} {i : Nat} {e : UInt8} (h : (dgs s i).all isDg = true) (h0 : ofP s ≤ i) (h1 : i < s.length) (he : e = s[i]) (hd : 48 ≤ (e.toNat : Int) ∧ (e.toNat : Int) ≤ 57) : (dgs s (i + 1)).all isDg = true := by
  rw [dgs_step h0 h1 he, List.all_append, h]
  simp only [List.all_cons, List.all_nil, Bool.and_true, Bool.true_and]
  exact isDg_iff.2 (by omega)

open Go.Lib in
theorem dgs_bd {s : List UInt8} {i : Nat} (h : (dgs s i).all isDg = true) (h1 : i < s.length) (h2 : s.length ≤ ofP s + 18) : valD 0 (dgs s i) < 100000000000000000 := by
  refine Nat.lt_of_lt_of_le (valD_lt _ 0 h) ?_
  have h3 : (dgs s i).length ≤ 17 := by unfold dgs; rw [List.length_take]; omega
  have := Nat.pow_le_pow_right (n := 10) (by omega) h3
  omega

open Go.Lib in
theorem dgs_full {s : List UInt8} {i : Nat} (h : s.length ≤ i) : dgs s i = unsg s := by
  unfold dgs; rw [unsg_drop, List.take_of_length_le (by rw [List.length_drop]; omega)]

open Go.Lib in
theorem numC_bad {s : List UInt8} (h : okNum s = false) : numC s = (0, false) := by unfold numC; rw [h]; rfl

open Go.Lib in
theorem numC_len0 {s : List UInt8} (h : s.length = ofP s) : numC s = (0, false) := by
  refine numC_bad ?_
  cases hq : okNum s with
  | false => rfl
  | true =>
    have h1 := ((okNum_iff s).1 hq).1
    rw [unsg_drop, List.drop_eq_nil_of_le (by omega)] at h1
    exact absurd rfl h1

open Go.Lib in
theorem numC_len18 {s : List UInt8} (h : ofP s + 18 < s.length) : numC s = (0, false) := by
  refine numC_bad ?_
  cases hq : okNum s with
  | false => rfl
  | true =>
    have h1 := ((okNum_iff s).1 hq).2.1
    rw [unsg_drop, List.length_drop] at h1
    omega

open Go.Lib in
theorem numC_zero {s : List UInt8} {i : Nat} {e : UInt8} (hi : i = ofP s) (h1 : i < s.length) (he : e = s[i]) (h48 : (e.toNat : Int) = 48) (h2 : 1 < s.length) : numC s = (0, false) := by
  refine numC_bad ?_
  cases hq : okNum s with
  | false => rfl
  | true =>
    have h3 := ((okNum_iff s).1 hq).2.2.2
    refine absurd ⟨?_, h2⟩ h3
    have e48 : e = 48 := UInt8.toNat_inj.1 (by have : (48 : UInt8).toNat = 48 := rfl; omega)
    subst hi
    rw [unsg_drop, List.drop_eq_getElem_cons h1, ← he, e48]; rfl

open Go.Lib in
theorem numC_dig {s : List UInt8} {i : Nat} {e : UInt8} (h0 : ofP s ≤ i) (h1 : i < s.length) (he : e = s[i]) (hd : ¬ (48 ≤ (e.toNat : Int) ∧ (e.toNat : Int) ≤ 57)) : numC s = (0, false) := by
  refine numC_bad ?_
  cases hq : okNum s with
  | false => rfl
  | true =>
    have h3 := ((okNum_iff s).1 hq).2.2.1
    rw [List.all_eq_true] at h3
    have hm : e ∈ unsg s := by
      rw [unsg_drop, he]
      exact List.mem_drop_iff_getElem.2 ⟨i - ofP s, by omega, by congr 1; omega⟩
    have := isDg_iff.1 (h3 e hm)
    exact absurd (by omega) hd

open Go.Lib in
theorem numC_ok {s : List UInt8} {i : Nat} {e : UInt8} {k : Nat} (hk : k = ofP s) (hl : k < s.length) (h18 : s.length ≤ ofP s + 18) (he : e = s[k]) (hz : ¬ ((e.toNat : Int) = 48 ∧ 1 < s.length)) (hi : s.length ≤ i) (ha : (dgs s i).all isDg = true) : okNum s = true := by
  rw [dgs_full hi] at ha
  subst hk
  refine (okNum_iff s).2 ⟨?_, by rw [unsg_drop, List.length_drop]; omega, ha, ?_⟩
  · rw [unsg_drop]; intro h; have := congrArg List.length h; rw [List.length_drop, List.length_nil] at this; omega
  · rintro ⟨h1, h2⟩
    rw [unsg_drop, List.drop_eq_getElem_cons hl, ← he] at h1
    simp only [List.head?_cons, Option.some.injEq] at h1
    exact hz ⟨by rw [h1]; rfl, h2⟩

open Go.Lib in
theorem numC_yes {s : List UInt8} {i : Nat} (hi : s.length ≤ i) (h : okNum s = true) : numC s = (if ofP s = 1 then -(valD 0 (dgs s i) : Int) else (valD 0 (dgs s i) : Int), true) := by
  unfold numC
  rw [if_pos h, dgs_full hi]
  unfold numOf ofP
  by_cases h45 : s.head? = some 45
  · rw [if_pos h45, if_pos h45, if_pos rfl]
  · rw [if_neg h45, if_neg h45, if_neg (by decide)]

open Go.Lib in
def digB (x : Int) : Bool := decide (48 ≤ x) && decide (x ≤ 57)

open Go.Lib in
theorem dgs_zero (s : List UInt8) : dgs s (ofP s) = [] := by unfold dgs; rw [Nat.sub_self, List.take_zero]

open Go.Lib in
theorem dgs_bd18 {s : List UInt8} {i : Nat} (h : (dgs s i).all isDg = true) (h2 : s.length ≤ ofP s + 18) : valD 0 (dgs s i) < 1000000000000000000 := by
  refine Nat.lt_of_lt_of_le (valD_lt _ 0 h) ?_
  have h3 : (dgs s i).length ≤ 18 := by unfold dgs; rw [List.length_take, List.length_drop]; omega
  have := Nat.pow_le_pow_right (n := 10) (by omega) h3
  omega

open Go.Lib in
theorem all_snoc {α : Type} {f : α → Bool} {l : List α} {k : Nat} (hk : k < l.length) (h : (l.take k).all f = true) {e : α} (he : e = l[k]) (h2 : f e = true) : (l.take (k + 1)).all f = true := by
  rw [List.take_succ_eq_append_getElem hk, List.all_append, h, ← he]
  simp [h2]

open Go.Lib in
theorem map_snoc {α β : Type} (f : α → β) {l : List α} {k : Nat} (hk : k < l.length) {e : α} (he : e = l[k]) : (l.take (k + 1)).map f = (l.take k).map f ++ [f e] := by
  rw [List.take_succ_eq_append_getElem hk, List.map_append, ← he]; rfl

open Go.Lib in
theorem ff {b : Bool} (h : b = true) (h2 : b = false) : False := by rw [h] at h2; exact Bool.noConfusion h2

open Go.Lib in
theorem itoa_no {c : UInt8} (h45 : ¬ c = 45) (hd : isDg c = false) (v : Int) : c ∉ Go.Lib.itoa v := by
  have key : ∀ n : Nat, c ∉ decDigits n := fun n hm => ff (List.all_eq_true.1 (dec_dig n).1 c hm) hd
  unfold Go.Lib.itoa
  split
  · intro hm
    rcases List.mem_cons.1 hm with hm | hm
    · exact h45 hm
    · exact key _ hm
  · exact key _

open Go.Lib in
theorem numC_itoa {v : Int} (h : -1000000000000000000 < v ∧ v < 1000000000000000000) : numC (Go.Lib.itoa v) = (v, true) := by
  obtain ⟨h1, h2⟩ := okNum_itoa h
  unfold numC; rw [if_pos h1, h2]

open Go.Lib in
theorem numR_itoa {v : Int} (h : -1000000000000000000 < v ∧ v < 1000000000000000000) : numR (Go.Lib.itoa v) = (v, true) := by rw [numR_eq]; exact numC_itoa h

open Go.Lib in
set_option maxRecDepth 100000 in
set_option maxHeartbeats 4000000 in
theorem impl_ReadDecimal (a0 : List UInt8) (w : World) (hG : Glob2 w) (s0 : a0.length ≤ 2000000) :
    Calls Tryd.prog 37 #[.string (bs a0)] w fun e w' => e = .returned (.tuple #[.int .i64 (numR a0).1, .bool (numR a0).2]) ∧ Below w.heap.size w w' := by
  have HH1 := Held.start Nob w
  refine enter (n := 26) Tryd.func37 rfl rfl rfl fun a_2 HE3 => ?_
  refine wp_seq ?_
  refine rg ?_
  refine pl_x HE3 HH1 (wt0 rfl) (x_assign rfl) rfl rfl fun a_4 HE5 => ?_
  refine pl_x HE5 HH1 (wt0 rfl) (x_assign rfl) rfl rfl fun a_6 HE7 => ?_
  refine wpList_nil ?_
  clear a_2 HE3 a_4 HE5
  refine nrm ?_
  refine wp_seq ?_
  refine rg ?_
  refine pl_x HE7 HH1 (wt0 rfl) (x_move rfl) rfl rfl fun a_8 HE9 => ?_
  refine pl fun K_10 hK11 => ?_
  refine st_call HE9 (wt0 rfl) rfl rfl rfl en_53 rfl rfl (ParseInt_64 a0 10 64 _ (HH1.glob2 hG) (by omega) (by rfl) (by rfl)) fun e w' hr => ?_
  obtain ⟨err21_1, rfl, her21_1, hbr21⟩ := hr
  have HH12 := HH1.on hbr21
  refine ⟨_, rfl, fun a_13 HE14 => hK11 _ _ ?_⟩
  refine pl_x HE14 HH12 (wt0 rfl) (x_move rfl) rfl rfl fun a_15 HE16 => ?_
  refine pl_x HE16 HH12 (wt0 rfl) (x_extract rfl rfl) rfl rfl fun a_17 HE18 => ?_
  refine pl_x HE18 HH12 (wt0 rfl) (x_extract rfl rfl) rfl rfl fun a_19 HE20 => ?_
  refine pl_x HE20 HH12 (wt0 rfl) (x_assign rfl) rfl rfl fun a_21 HE22 => ?_
  refine pl_x HE22 HH12 (wt0 rfl) (x_assign rfl) rfl rfl fun a_23 HE24 => ?_
  refine wpList_nil ?_
  clear a_6 HE7 HH1 a_8 HE9 a_13 HE14 a_15 HE16 a_17 HE18 a_19 HE20 a_21 HE22 hK11 K_10
  refine nrm ?_
  refine wp_seq ?_
  refine wp_seq ?_
  refine rg ?_
  refine pl_x HE24 HH12 (wt0 rfl) (x_move rfl) rfl rfl fun a_25 HE26 => ?_
  refine pl_x HE26 HH12 (wt0 rfl) (x_neqNil her21_1 (by kernel_rfl) rfl) rfl rfl fun a_27 HE28 => ?_
  refine pl_x HE28 HH12 (wt0 rfl) (x_move rfl) rfl rfl fun a_29 HE30 => ?_
  rcases Bool.eq_false_or_eq_true ((parI a0).2) with hc22 | hc22
  · refine pl_no HE30 (wtF HE30 rfl rfl rfl hc22) rfl rfl fun a_31 HE32 => ?_
    refine pl_no HE32 (wtF HE32 rfl rfl rfl hc22) rfl rfl fun a_33 HE34 => ?_
    refine pl_no HE34 (wtF HE34 rfl rfl rfl hc22) rfl rfl fun a_35 HE36 => ?_
    refine pl_no HE36 (wtF HE36 rfl rfl rfl hc22) rfl rfl fun a_37 HE38 => ?_
    refine pl_x HE38 HH12 (wt0 rfl) (x_pickT rfl hc22 rfl) rfl rfl fun a_39 HE40 => ?_
    refine pl_x HE40 HH12 (wt0 rfl) (x_move rfl) rfl rfl fun a_41 HE42 => ?_
    refine pl_no HE42 (wtF HE42 rfl rfl rfl rfl) rfl rfl fun a_43 HE44 => ?_
    refine pl_no HE44 (wtF HE44 rfl rfl rfl rfl) rfl rfl fun a_45 HE46 => ?_
    refine pl_no HE46 (wtF HE46 rfl rfl rfl rfl) rfl rfl fun a_47 HE48 => ?_
    refine pl_no HE48 (wtF HE48 rfl rfl rfl rfl) rfl rfl fun a_49 HE50 => ?_
    refine pl_x HE50 HH12 (wt0 rfl) (x_pickT rfl rfl rfl) rfl rfl fun a_51 HE52 => ?_
    refine wpList_nil ?_
    clear a_23 HE24 a_25 HE26 a_27 HE28 a_29 HE30 a_31 HE32 a_33 HE34 a_35 HE36 a_37 HE38 a_39 HE40 a_41 HE42 a_43 HE44 a_45 HE46 a_47 HE48 a_49 HE50
    refine nrm ?_
    refine cndT HE52 rfl rfl ?_
    refine wp_seq ?_
    refine rg ?_
    refine pl_x HE52 HH12 (wt0 rfl) (x_assign rfl) rfl rfl fun a_53 HE54 => ?_
    refine pl_x HE54 HH12 (wt0 rfl) (x_assign rfl) rfl rfl fun a_55 HE56 => ?_
    refine wpList_nil ?_
    clear a_51 HE52 a_53 HE54
    refine nrm ?_
    refine wp_ret ?_
    refine (thn_ret ?_)
    refine ret2 HE56 rfl (rv_tmp rfl) (rv_tmp rfl) ?_
    have hF : (numR a0) = (0, false) := by
      rw [numR_def]; first | (simp [hc22]; done) | (simp [hc22]; omega)
    exact ⟨by first | (rw [hF] <;> rfl) | rfl | (rw [hF]; simp only [Ending.returned.injEq, Value.slice.injEq, true_and, and_true]; first | omega | (simp; done)) | (rw [hF]; simp; omega), HH12.below⟩
  · have q0 := parI_bd hc22
    refine pl_x HE30 HH12 (wtT HE30 rfl rfl rfl hc22) (x_move rfl) rfl rfl fun a_57 HE58 => ?_
    refine pl fun K_59 hK60 => ?_
    refine st_call HE58 (wtT HE58 rfl rfl rfl hc22) rfl rfl rfl en_54 rfl rfl (impl_Decimal ((parI a0).1) _ (HH12.glob hG.1) (by omega)) fun e w' hr => ?_
    have hAr23_0 := itoa_len (n := ((parI a0).1)) (by omega)
    obtain ⟨rfl, hbr23⟩ := hr
    have HH61 := HH12.on hbr23
    refine ⟨_, rfl, fun a_62 HE63 => hK60 _ _ ?_⟩
    refine pl_x HE63 HH61 (wtT HE63 rfl rfl rfl hc22) (x_move rfl) rfl rfl fun a_64 HE65 => ?_
    refine pl_x HE65 HH61 (wtT HE65 rfl rfl rfl hc22) (x_sneqB rfl rfl) rfl rfl fun a_66 HE67 => ?_
    refine pl_x HE67 HH61 (wt0 rfl) (x_pickF rfl hc22 rfl) rfl rfl fun a_68 HE69 => ?_
    refine pl_x HE69 HH61 (wt0 rfl) (x_move rfl) rfl rfl fun a_70 HE71 => ?_
    by_cases hc24 : (Go.Lib.itoa ((parI a0).1)) = a0
    · refine pl_x HE71 HH61 (wtT HE71 rfl rfl rfl (not_f (decide_eq_true hc24))) (x_move rfl) rfl rfl fun a_72 HE73 => ?_
      refine pl fun K_74 hK75 => ?_
      refine st_call HE73 (wtT HE73 rfl rfl rfl (not_f (decide_eq_true hc24))) rfl rfl rfl en_55 rfl rfl (TrimMinus a0 ([45]) _ (by rfl)) fun e w' hr => ?_
      have hAr25_0 := unsg_len a0
      obtain ⟨rfl, hbr25⟩ := hr
      have HH76 := HH61.on hbr25
      refine ⟨_, rfl, fun a_77 HE78 => hK75 _ _ ?_⟩
      refine pl_x HE78 HH76 (wtT HE78 rfl rfl rfl (not_f (decide_eq_true hc24))) (x_lenB Tryd.underlying9 rfl) rfl rfl fun a_79 HE80 => ?_
      refine pl_x HE80 HH76 (wtT HE80 rfl rfl rfl (not_f (decide_eq_true hc24))) (x_gtr rfl rfl) rfl rfl fun a_81 HE82 => ?_
      refine pl_x HE82 HH76 (wt0 rfl) (x_pickF rfl (not_f (decide_eq_true hc24)) rfl) rfl rfl fun a_83 HE84 => ?_
      refine wpList_nil ?_
      clear a_23 HE24 a_25 HE26 a_27 HE28 a_29 HE30 HH12 a_57 HE58 a_62 HE63 a_64 HE65 a_66 HE67 a_68 HE69 a_70 HE71 K_59 hK60 HH61 a_72 HE73 a_77 HE78 a_79 HE80 a_81 HE82 hK75 K_74
      refine nrm ?_
      refine cnd_d HE84 rfl (fun hc26 => ?_) (fun hc26 => ?_)
      · refine wp_seq ?_
        refine rg ?_
        refine pl_x HE84 HH76 (wt0 rfl) (x_assign rfl) rfl rfl fun a_85 HE86 => ?_
        refine pl_x HE86 HH76 (wt0 rfl) (x_assign rfl) rfl rfl fun a_87 HE88 => ?_
        refine wpList_nil ?_
        clear a_83 HE84 a_85 HE86
        refine nrm ?_
        refine wp_ret ?_
        refine (thn_ret ?_)
        refine ret2 HE88 rfl (rv_tmp rfl) (rv_tmp rfl) ?_
        have hF : (numR a0) = (0, false) := by
          rw [numR_def]; first | (simp [hc22, hc24, hc26]; done) | (simp [hc22, hc24, hc26]; omega)
        exact ⟨by first | (rw [hF] <;> rfl) | rfl | (rw [hF]; simp only [Ending.returned.injEq, Value.slice.injEq, true_and, and_true]; first | omega | (simp; done)) | (rw [hF]; simp; omega), HH76.below⟩
      · refine wp_skip ?_
        refine nrm ?_
        refine wp_seq ?_
        refine rg ?_
        refine pl_x HE84 HH76 (wt0 rfl) (x_move rfl) rfl rfl fun a_89 HE90 => ?_
        refine pl_x HE90 HH76 (wt0 rfl) (x_assign rfl) rfl rfl fun a_91 HE92 => ?_
        refine pl_x HE92 HH76 (wt0 rfl) (x_assign rfl) rfl rfl fun a_93 HE94 => ?_
        refine wpList_nil ?_
        clear a_83 HE84 a_89 HE90 a_91 HE92
        refine nrm ?_
        refine wp_ret ?_
        refine ret2 HE94 rfl (rv_tmp rfl) (rv_tmp rfl) ?_
        have hF : (numR a0) = ((parI a0).1, true) := by
          rw [numR_def]; first | (simp [hc22, hc24, hc26]; done) | (simp [hc22, hc24, hc26]; omega)
        exact ⟨by first | (rw [hF] <;> rfl) | rfl | (rw [hF]; simp only [Ending.returned.injEq, Value.slice.injEq, true_and, and_true]; first | omega | (simp; done)) | (rw [hF]; simp; omega), HH76.below⟩
    · refine pl_no HE71 (wtF HE71 rfl rfl rfl (not_t (decide_eq_false hc24))) rfl rfl fun a_95 HE96 => ?_
      refine pl_no HE96 (wtF HE96 rfl rfl rfl (not_t (decide_eq_false hc24))) rfl rfl fun a_97 HE98 => ?_
      refine pl_no HE98 (wtF HE98 rfl rfl rfl (not_t (decide_eq_false hc24))) rfl rfl fun a_99 HE100 => ?_
      refine pl_no HE100 (wtF HE100 rfl rfl rfl (not_t (decide_eq_false hc24))) rfl rfl fun a_101 HE102 => ?_
      refine pl_x HE102 HH61 (wt0 rfl) (x_pickT rfl (not_t (decide_eq_false hc24)) rfl) rfl rfl fun a_103 HE104 => ?_
      refine wpList_nil ?_
      clear a_23 HE24 a_25 HE26 a_27 HE28 a_29 HE30 HH12 a_57 HE58 a_62 HE63 a_64 HE65 a_66 HE67 a_68 HE69 a_70 HE71 a_95 HE96 a_97 HE98 a_99 HE100 a_101 HE102 hK60 K_59
      refine nrm ?_
      refine cndT HE104 rfl rfl ?_
      refine wp_seq ?_
      refine rg ?_
      refine pl_x HE104 HH61 (wt0 rfl) (x_assign rfl) rfl rfl fun a_105 HE106 => ?_
      refine pl_x HE106 HH61 (wt0 rfl) (x_assign rfl) rfl rfl fun a_107 HE108 => ?_
      refine wpList_nil ?_
      clear a_103 HE104 a_105 HE106
      refine nrm ?_
      refine wp_ret ?_
      refine (thn_ret ?_)
      refine ret2 HE108 rfl (rv_tmp rfl) (rv_tmp rfl) ?_
      have hF : (numR a0) = (0, false) := by
        rw [numR_def]; first | (simp [hc22, hc24]; done) | (simp [hc22, hc24]; omega)
      exact ⟨by first | (rw [hF] <;> rfl) | rfl | (rw [hF]; simp only [Ending.returned.injEq, Value.slice.injEq, true_and, and_true]; first | omega | (simp; done)) | (rw [hF]; simp; omega), HH61.below⟩

end Go.Proofs.YthknelhboibbnaaDoor
