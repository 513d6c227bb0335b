/- What the proof of FnExactReadFractions needs: contracts of the functions that it reaches, each once. -/
import Derived.Test.YthknelhboibbnaaDoorProg
import Derived.Test.YthknelhboibbnaaDoorQMem
import Derived.Test.YthknelhboibbnaaDoorQOpen
import Derived.Test.YthknelhboibbnaaDoorLReadFractionsa
import Derived.WalkKit
import Derived.WalkSpells
import Derived.Below
import Derived.LoopTactic
import Derived.Outline
import Derived.Deep.QuietTactic
import Derived.BigQuiet
import Derived.Deep.LoopGhost
import Derived.Handy
import Derived.Lib.Hide
import Derived.Shelf.Abstract
import Derived.StillTailTactics
import Derived.OwnWalk
import Derived.Maps.AppendAt
import Derived.RegionTactic
import Derived.Deep.RegionHeld3
import Derived.IntWalk
import Derived.Deep.Upon
import Derived.Laws.OwnMore
import Derived.Maps.AppendAt
import Derived.Laws.BytesString
import Derived.Laws.Strings
import Derived.Lib.Bytes
import Derived.Lib.Strings
import Derived.Lib.FrozenHead
import Derived.Lib.RuneBytes
import Derived.Lib.LaidTab
import Derived.Laws.StructEq
import Derived.Lib.ItoaLen
import Derived.Lib.Join
import Derived.Shelf.Strconv.Itoa4
import Derived.Shelf.Strings.OnBuilder
import Derived.Shelf.Strings.BuilderK
import Derived.Shelf.Strings.BuilderRune
import Derived.Shelf.LaysM
import Derived.Ground.NamesProg
import Derived.Lib.ParseIntBTie
import Derived.Lib.SplitLaws
import Derived.Lib.Replace
import Derived.Shelf.LaysC
import Derived.Shelf.Strconv.ErrVarParseInt
import Derived.Shelf.Strconv.ParseIntPublic10
import Derived.Shelf.Strings.Prefix
import Derived.Shelf.Strings.Cut
import Derived.Shelf.Strings.Split
import Derived.Shelf.Strings.Replace
import Derived.Shelf.Small.Wraps
import Derived.Stop.IfaceNil
namespace Go.Proofs.YthknelhboibbnaaDoor
open Go.RowKit

theorem x_conv8 {P : Program} {S : World → Prop} {L : List (Nat × Value)} {d : Option Tmp} {s t : TypeId} {x : Operand} {q : IntKind} {m : Int} {ty : TypeId} {pos : String} {af : Array Edge} {g : Option (Nat × Bool)} {sd : TypeDesc} (hs : P.underlying s = some sd) (ht : P.underlying t = some (.int .u8)) (hx : ev L x = some (.int q m)) (h : 0 ≤ m ∧ m ≤ 255) : XS P S L ⟨d, .convert s t x, ty, pos, af, g⟩ (.int .u8 m) := fun _ _ _ hE _ => by
  have e : IntKind.u8.wrap m = m := IntWalk.u8_in _ h
  simp [execOp, hE.ev hx, convert, run_underlying hs, run_underlying ht, Conv.intToInt, e]

theorem x_idxB {P : Program} {S : World → Prop} {L : List (Nat × Value)} {d : Option Tmp} {t : TypeId} {x y : Operand} {l : List UInt8} {q : IntKind} {m : Int} {k : Nat} {b : UInt8} {ty : TypeId} {pos : String} {af : Array Edge} {g : Option (Nat × Bool)} (ht : P.underlying t = some .string) (hx : ev L x = some (.string (bs l))) (hy : ev L y = some (.int q m)) (hm : m = (k : Int)) (hk : k < l.length) (hb : b = l[k]) : XS P S L ⟨d, .index t x y, ty, pos, af, g⟩ (.int .u8 (b.toNat : Int)) := fun _ _ w hE _ => by
  subst hm hb
  have h := run_index_string (P := P) w t (bs l) q (k : Int) ht
  rw [dif_pos ⟨by omega, by rw [bs_size]; omega⟩] at h
  simp only [execOp, hE.ev hx, hE.ev hy, Sem.run_bind, h, Result.andThen_ok]
  rfl

theorem loadCells_sl {P : Program} {w : World} {b off c : Nat} {S : Nat → Prop} {xs : List Int} (h : Sl eByte w S (some ⟨b, off, none⟩) c xs) : (loadCells ⟨b, off, none⟩ xs.length).run P w = .ok (xs.map (Value.int .u8)).toArray w := by
  have key : ∀ (ys : List Int) (i : Nat) (acc : Array Value), (∀ (j : Nat) (y : Int), ys[j]? = some y → w.cell? ⟨b, off + (i + j), none⟩ = some (.int .u8 y)) → (loadCellsFrom ⟨b, off, none⟩ i ys.length acc).run P w = .ok (acc ++ (ys.map (Value.int .u8)).toArray) w := by
    intro ys
    induction ys with
    | nil => intro i acc _; simp [loadCellsFrom, Sem.run_pure]
    | cons y ys ih =>
      intro i acc hc
      have h0 := hc 0 y rfl
      rw [Nat.add_zero] at h0
      have hl : (load (Addr.add ⟨b, off, none⟩ i)).run P w = .ok (.int .u8 y) w := by
        rw [add_none]; simp [load, Sem.run, h0]
      have h1 := ih (i + 1) (acc.push (.int .u8 y)) fun j z hz => by
        have := hc (j + 1) z (by simpa using hz)
        rwa [show off + (i + (j + 1)) = off + (i + 1 + j) from by omega] at this
      simp only [List.length_cons, loadCellsFrom, Sem.run_bind, hl, Result.andThen_ok, h1]
      simp
  refine (key xs 0 #[] fun j y hy => ?_).trans (by simp)
  have hj := (List.getElem?_eq_some_iff.1 hy).1
  obtain ⟨b', off', es, hA, _, hR, hc⟩ := h.at hj
  simp only [Option.some.injEq, Addr.mk.injEq, and_true] at hA
  obtain ⟨rfl, rfl⟩ := hA
  obtain ⟨rfl, _⟩ := hR
  have h2 := hc 0 _ rfl
  have h3 : xs[j] = y := by rw [List.getElem?_eq_getElem hj] at hy; exact Option.some.inj hy
  rw [h3] at h2
  rwa [show off + j * eByte.size + 0 = off + (0 + j) from by simp [eByte]] at h2

theorem push_bytes : ∀ (ns : List Int) (l : List UInt8), ns.foldl (fun r n => r.push (UInt8.ofNat n.toNat)) (bs l) = bs (l ++ Go.Lib.bytesOf ns)
  | [], l => by simp [Go.Lib.bytesOf]
  | n :: ns, l => by
    have e : (bs l).push (UInt8.ofNat n.toNat) = bs (l ++ [UInt8.ofNat n.toNat]) := by simp [bs, ByteArray.push]
    rw [List.foldl_cons, e, push_bytes ns]
    simp [Go.Lib.bytesOf]

theorem x_bytes {P : Program} {S : World → Prop} {L : List (Nat × Value)} {d : Option Tmp} {s t e : TypeId} {x : Operand} {A : Option Addr} {c : Nat} {xs : List Int} {ty : TypeId} {pos : String} {af : Array Edge} {g : Option (Nat × Bool)} (hs : P.underlying s = some (.slice e)) (he : P.underlying e = some (.int .u8)) (ht : P.underlying t = some .string) (hx : ev L x = some (.slice A xs.length c)) (hr : ∀ w, S w → Sl eByte w (Old w) A c xs) : XS P S L ⟨d, .convert s t x, ty, pos, af, g⟩ (.string (bs (Go.Lib.bytesOf xs))) := fun _ _ w hE hS => by
  have h := hr w hS
  have hb : (Conv.bytesToString (.slice A xs.length c)).run P w = .ok (.string (bs (Go.Lib.bytesOf xs))) w := by
    by_cases hn : xs = []
    · subst hn
      cases A with
      | none => rfl
      | some p =>
        have := run_bytesToString (P := P) w p 0 c [] rfl
        exact this
    · obtain ⟨b, off, rfl, _⟩ := h.2.2 hn
      have := run_bytesToString (P := P) w ⟨b, off, none⟩ xs.length c xs (loadCells_sl h)
      rw [this]
      have e2 := push_bytes xs []
      rw [List.nil_append] at e2
      rw [← e2]; rfl
  simp only [execOp, hE.ev hx, convert, Sem.run_bind, run_underlying hs, run_underlying ht, run_underlying he, Result.andThen_ok, hb]
  rfl

theorem c_ownY {M : Nat → Prop} {w0 : World} {rs : List Res} {S : Nat → Prop} {b off c k : Nat} {xs : List Int} {y : Int} (i : Nat) (hi : rs[i]? = some (rSo eByte S (some ⟨b, off, none⟩) c xs)) (hk : k < xs.length) (hy : xs[k] = y) : ∀ w, Held M w0 rs w → w.cell? ⟨b, off + k * 1, none⟩ = some (.int .u8 y) := fun w h => by
  obtain ⟨b', off', es, hA, _, hR, hc⟩ := (h.sl hi).at hk
  simp only [Option.some.injEq, Addr.mk.injEq, and_true] at hA
  obtain ⟨rfl, rfl⟩ := hA
  obtain ⟨rfl, _⟩ := hR
  have := hc 0 _ rfl
  rw [← hy]; exact this

theorem i_ownY {M : Nat → Prop} {w0 w : World} {rs : List Res} {S : Nat → Prop} {A : Option Addr} {c k : Nat} {xs : List Int} (h : Held M w0 rs w) (i : Nat) (hi : rs[i]? = some (rSo eByte S A c xs)) (hk : k < xs.length) : 0 ≤ xs[k] ∧ xs[k] ≤ 255 := by
  obtain ⟨b', off', es, hA, _, hR, hc⟩ := (h.sl hi).at hk
  exact hR.2

theorem x_sliceSL {P : Program} {S : World → Prop} {L : List (Nat × Value)} {d : Option Tmp} {x lo : Operand} {t : TypeId} {l : List UInt8} {k : Nat} {m : Int} {q : IntKind} {ty : TypeId} {pos : String} {af : Array Edge} {g : Option (Nat × Bool)} (ht : P.underlying t = some .string) (hx : ev L x = some (.string (bs l))) (hlo : ev L lo = some (.int q m)) (hm : m = (k : Int)) (hk : k ≤ l.length) : XS P S L ⟨d, .slice t x (some lo) none none, ty, pos, af, g⟩ (.string (bs (l.drop k))) := fun _ _ _ hE _ => by
  subst hm
  have hsz := bs_size l
  have e : (bs l).extract k (bs l).size = bs (l.drop k) := by
    refine WideShapes.bytes_inj ?_
    rw [Go.Lib.extract_data, hsz]
    exact List.take_of_length_le (by rw [List.length_drop]; exact Nat.le_refl _)
  simp [execOp, hE.ev hx, hE.ev hlo, Instr.sliceAt, Instr.slice, run_underlying ht, Instr.sliceBounds, Instr.sliceBound, asIntOf, hsz, hk]
  simpa [hsz] using e

theorem x_sliceSH {P : Program} {S : World → Prop} {L : List (Nat × Value)} {d : Option Tmp} {x lo hi : Operand} {t : TypeId} {l : List UInt8} {k k2 : Nat} {m m2 : Int} {q q2 : IntKind} {ty : TypeId} {pos : String} {af : Array Edge} {g : Option (Nat × Bool)} (ht : P.underlying t = some .string) (hx : ev L x = some (.string (bs l))) (hlo : ev L lo = some (.int q m)) (hhi : ev L hi = some (.int q2 m2)) (hm : m = (k : Int)) (hm2 : m2 = (k2 : Int)) (hk : k ≤ k2) (hk2 : k2 ≤ l.length) : XS P S L ⟨d, .slice t x (some lo) (some hi) none, ty, pos, af, g⟩ (.string (bs ((l.drop k).take (k2 - k)))) := fun _ _ _ hE _ => by
  subst hm hm2
  have hsz := bs_size l
  have e : (bs l).extract k k2 = bs ((l.drop k).take (k2 - k)) := by
    refine WideShapes.bytes_inj ?_
    rw [Go.Lib.extract_data]
  simp [execOp, hE.ev hx, hE.ev hlo, hE.ev hhi, Instr.sliceAt, Instr.slice, run_underlying ht, Instr.sliceBounds, Instr.sliceBound, asIntOf, hsz, hk, hk2]
  simpa [hsz] using e

theorem c_ownS {M : Nat → Prop} {w0 : World} {rs : List Res} {S : Nat → Prop} {b off c k : Nat} {xs : List (List UInt8)} {y : List UInt8} (i : Nat) (hi : rs[i]? = some (rSo eTxt S (some ⟨b, off, none⟩) c xs)) (hk : k < xs.length) (hy : xs[k] = y) : ∀ w, Held M w0 rs w → w.cell? ⟨b, off + k * 1, none⟩ = some (.string (bs y)) := fun w h => by
  obtain ⟨b', off', es, hA, _, hR, hc⟩ := (h.sl hi).at hk
  simp only [Option.some.injEq, Addr.mk.injEq, and_true] at hA
  obtain ⟨rfl, rfl⟩ := hA
  obtain ⟨rfl, _⟩ := hR
  have := hc 0 _ rfl
  rw [← hy]; exact this

theorem i_ownS {M : Nat → Prop} {w0 w : World} {rs : List Res} {S : Nat → Prop} {A : Option Addr} {c k : Nat} {xs : List (List UInt8)} (h : Held M w0 rs w) (i : Nat) (hi : rs[i]? = some (rSo eTxt S A c xs)) (hk : k < xs.length) : xs[k].length ≤ 9223372036854775807 := by
  obtain ⟨b', off', es, hA, _, hR, hc⟩ := (h.sl hi).at hk
  exact hR.2

/-- A builder in block b, its own blocks in S, holding the bytes l. -/
def BldIn (T e : TypeId) (B b : Nat) (S : Nat → Prop) (l : List UInt8) (w : World) : Prop :=
  Lib.IsBuilderF T e B b (Lib.byteCells l) w ∧ S b ∧ ∀ p v g, w.heap[b]? = some (.cells #[p, v] T (0, 0)) → v.ownBlock = some g → S g

theorem BldIn.loc {T e : TypeId} {B b : Nat} {S : Nat → Prop} {l : List UInt8} {w w' : World} (hs : ∀ k, S k → w'.heap[k]? = w.heap[k]?) (h : BldIn T e B b S l w) : BldIn T e B b S l w' := by
  obtain ⟨h1, h2, h3⟩ := h
  have key : ∀ p, Lib.BuilderAtF T e B b p (Lib.byteCells l) w → Lib.BuilderAtF T e B b p (Lib.byteCells l) w' := by
    rintro p ⟨hB, v, hb, hown, hne⟩
    refine ⟨hB, v, (hs b h2).trans hb, ⟨hown.1, ?_⟩, hne⟩
    rcases hown.2 with hn | ⟨g, cap, cur, fz, rfl, hbg, hg, rest⟩
    · exact .inl hn
    · exact .inr ⟨g, cap, cur, fz, rfl, hbg, (hs g (h3 _ _ g hb (by simp [Value.ownBlock]))).trans hg, rest⟩
  refine ⟨?_, h2, fun p v g hb hv => h3 p v g ((hs b h2).symm.trans hb) hv⟩
  rcases h1 with h | h
  · exact .inl (key _ h)
  · exact .inr (key _ h)

def rBldT (T e : TypeId) (B b : Nat) (S : Nat → Prop) (l : List UInt8) : Res := ⟨S, BldIn T e B b S l, fun _ _ hs h => BldIn.loc hs h⟩

theorem BldIn.mk {T e : TypeId} {B b : Nat} {l : List UInt8} {w : World} (h : Lib.IsBuilderF T e B b (Lib.byteCells l) w) : BldIn T e B b (Iv B w.heap.size) l w := by
  have hb : B ≤ b ∧ b < w.heap.size := by
    rcases h with h | h
    · exact ⟨h.1, h.lt⟩
    · exact ⟨h.1, h.lt⟩
  refine ⟨h, hb, fun p v g hh hv => ?_⟩
  have key : ∀ q, Lib.BuilderAtF T e B b q (Lib.byteCells l) w → Iv B w.heap.size g := by
    rintro q ⟨_, v', hb', hown, _⟩
    rw [hh] at hb'
    simp only [Option.some.injEq, Obj.cells.injEq, and_true] at hb'
    have e2 : v = v' := by
      have := congrArg (fun a : Array Value => a[1]?) hb'
      simpa using this
    subst e2
    exact hown.lt g hv
  rcases h with h | h
  · exact key _ h
  · exact key _ h

theorem Held.bldCall {T e : TypeId} {w0 w w' : World} {b : Nat} {S : Nat → Prop} {l l' : List UInt8} (h : Held Nob w0 [rBldT T e w0.heap.size b S l] w) (hb : Below w0.heap.size w w') (hi : Lib.IsBuilderF T e w0.heap.size b (Lib.byteCells l') w') : ∃ S', Held Nob w0 [rBldT T e w0.heap.size b S' l'] w' := by
  refine ⟨Iv w0.heap.size w'.heap.size, ?_⟩
  have hb2 : Below w0.heap.size w0 w' := h.below.trans hb
  exact ⟨.of_below hb2, by intro r hr; obtain rfl := List.mem_singleton.1 hr; exact BldIn.mk hi, by intro r hr; obtain rfl := List.mem_singleton.1 hr; exact fun k hk => ⟨.inr hk.1, hk.2⟩, List.pairwise_singleton _ _⟩

theorem Held.toBld {T e : TypeId} {w0 w : World} {b : Nat} {rs : List Res} (h : Held Nob w0 (rBlk b T [.pointer none, .slice none 0 0] :: rs) w) : ∃ S, Held Nob w0 [rBldT T e w0.heap.size b S []] w := by
  have hB : Blk w b T #[.pointer none, .slice none 0 0] := h.ok _ List.mem_cons_self
  have hr := h.rng _ (List.mem_cons_self) b rfl
  have hle : w0.heap.size ≤ b := hr.1.resolve_left fun x => x.elim
  have hi : Lib.IsBuilderF T e w0.heap.size b (Lib.byteCells []) w := .inl ⟨hle, _, hB, by simpa [Lib.byteCells] using World.ownsRowF_nil w w0.heap.size e 1, by simp [Value.ownBlock]⟩
  refine ⟨Iv w0.heap.size w.heap.size, ⟨h.chg, ?_, ?_, List.pairwise_singleton _ _⟩⟩
  · intro r hr; obtain rfl := List.mem_singleton.1 hr; exact BldIn.mk hi
  · intro r hr; obtain rfl := List.mem_singleton.1 hr; exact fun k hk => ⟨.inr hk.1, hk.2⟩

theorem Held.isBld {T e : TypeId} {M : Nat → Prop} {w0 w : World} {B b : Nat} {S : Nat → Prop} {l : List UInt8} {rs : List Res} (h : Held M w0 (rBldT T e B b S l :: rs) w) : Lib.IsBuilderF T e B b (Lib.byteCells l) w := (h.ok _ List.mem_cons_self : BldIn T e B b S l w).1

theorem x_sub8 {P : Program} {S : World → Prop} {L : List (Nat × Value)} {d : Option Tmp} {t t' : TypeId} {x y : Operand} {m k : Int} {ty : TypeId} {pos : String} {af : Array Edge} {g : Option (Nat × Bool)} (hx : ev L x = some (.int .u8 m)) (hy : ev L y = some (.int .u8 k)) (h : 0 ≤ m - k ∧ m - k ≤ 255) : XS P S L ⟨d, .binOp .sub t x y t', ty, pos, af, g⟩ (.int .u8 (m - k)) := fun _ _ _ hE _ => by
  have e : IntKind.u8.wrap (m - k) = m - k := IntWalk.u8_in _ h
  simp only [execOp, hE.ev hx, hE.ev hy, eqGuard, binOp, Op.intArith, e]; rfl

/-- What a package-level variable holds stays when only new blocks come and blocks behind it change. -/
theorem tab_below {P : Program} {w w' : World} {name : String} {k : IntKind} {zs : List Int} {g : Nat} (hg : P.globalNamed name = some g) (h : Lib.TabIs P w name k zs) (hb : Below w.heap.size w w') : Lib.TabIs P w' name k zs := by
  unfold Lib.TabIs World.var? at h ⊢
  rw [hg] at h ⊢
  simp only [Option.bind_some] at h ⊢
  have hlt : g < w.heap.size := by
    rcases Nat.lt_or_ge g w.heap.size with hlt | hge
    · exact hlt
    · rw [Array.getElem?_eq_none hge] at h; cases h
  rw [hb.block g hlt]
  exact h

theorem tv_2 : TV Tryd.prog 2 false [.int .i64 0] := by
  obtain ⟨i, h1, h2, h3⟩ := tv_parts (show (Tryd.prog.info? 2).map (fun i => (i.zero, i.size)) = some (some (.int .i64 0), 1) from by kernel_rfl)
  exact ⟨⟨_, Tryd.underlying2, rfl⟩, i, _, h1, h2, h3, rfl⟩

theorem tv_5 : TV Tryd.prog 5 false [.int .u8 0] := by
  obtain ⟨i, h1, h2, h3⟩ := tv_parts (show (Tryd.prog.info? 5).map (fun i => (i.zero, i.size)) = some (some (.int .u8 0), 1) from by kernel_rfl)
  exact ⟨⟨_, Tryd.underlying5, rfl⟩, i, _, h1, h2, h3, rfl⟩

theorem tv_9 : TV Tryd.prog 9 false [.string ByteArray.empty] := by
  obtain ⟨i, h1, h2, h3⟩ := tv_parts (show (Tryd.prog.info? 9).map (fun i => (i.zero, i.size)) = some (some (.string ByteArray.empty), 1) from by kernel_rfl)
  exact ⟨⟨_, Tryd.underlying9, rfl⟩, i, _, h1, h2, h3, rfl⟩

theorem tv_47 : TV Tryd.prog 47 true [.int .i64 0, .int .i64 0] := by
  obtain ⟨i, h1, h2, h3⟩ := tv_parts (show (Tryd.prog.info? 47).map (fun i => (i.zero, i.size)) = some (some (.agg #[.int .i64 0, .int .i64 0]), 2) from by kernel_rfl)
  exact ⟨⟨_, Tryd.underlying47, rfl⟩, i, _, h1, h2, h3, rfl⟩

theorem ts_22 : TSl Tryd.prog 22 47 2 16 := by
  obtain ⟨i, h1, h2, h3, h4⟩ := ts_parts (show (Tryd.prog.info? 47).map (fun i => (i.zero, i.size, i.bytes)) = some (some (.agg #[.int .i64 0, .int .i64 0]), 2, 16) from by kernel_rfl)
  exact ⟨Tryd.underlying22, i, _, h1, h2, h3, h4, rfl⟩

theorem ts_43 : TSl Tryd.prog 43 9 1 16 := by
  obtain ⟨i, h1, h2, h3, h4⟩ := ts_parts (show (Tryd.prog.info? 9).map (fun i => (i.zero, i.size, i.bytes)) = some (some (.string ByteArray.empty), 1, 16) from by kernel_rfl)
  exact ⟨Tryd.underlying43, i, _, h1, h2, h3, h4, rfl⟩

theorem fa_47_0 : ∀ b o w, (Instr.fieldAt 47 (.pointer (some ⟨b, o, none⟩)) 0).run Tryd.prog w = .ok (.pointer (some ⟨b, o + 0, none⟩)) w := by
  obtain ⟨i, z, h1, _, h3, _⟩ := tv_2.info
  exact fun b o w => fieldAt_of (f := 0) Tryd.underlying47 rfl h1 (by rw [h3]; decide) b o w

theorem fa_47_1 : ∀ b o w, (Instr.fieldAt 47 (.pointer (some ⟨b, o, none⟩)) 1).run Tryd.prog w = .ok (.pointer (some ⟨b, o + 1, none⟩)) w := by
  obtain ⟨i, z, h1, _, h3, _⟩ := tv_2.info
  exact fun b o w => fieldAt_of (f := 1) Tryd.underlying47 rfl h1 (by rw [h3]; decide) b o w

theorem tb_47 : TB Tryd.prog 47 [.int .i64 0, .int .i64 0] := by
  refine ⟨tv_47, _, #[(0, 1), (1, 1)], Tryd.underlying47, fun w => ?_, fun i hi => ?_⟩
  · obtain ⟨i2, z2, h2, _, s2, _⟩ := tv_2.info; simp only [List.length_cons, List.length_nil] at s2
    simp [sizeOf, typeInfo, h2, s2]
  · simp only [List.length_cons, List.length_nil] at hi
    match i, hi with
    | 0, _ => rfl
    | 1, _ => rfl

theorem ts_92 : TSl Tryd.prog 92 5 1 1 := by
  obtain ⟨i, h1, h2, h3, h4⟩ := ts_parts (show (Tryd.prog.info? 5).map (fun i => (i.zero, i.size, i.bytes)) = some (some (.int .u8 0), 1, 1) from by kernel_rfl)
  exact ⟨Tryd.underlying92, i, _, h1, h2, h3, h4, rfl⟩

theorem en_9 : ∀ args w, (callFunc 9 args).run Tryd.prog w = .ok (.enter 9 args) w := enters_of Tryd.func9 (by kernel_rfl) rfl

theorem en_10 : ∀ args w, (callFunc 10 args).run Tryd.prog w = .ok (.enter 10 args) w := enters_of Tryd.func10 (by kernel_rfl) rfl

theorem en_11 : ∀ args w, (callFunc 11 args).run Tryd.prog w = .ok (.enter 11 args) w := enters_of Tryd.func11 (by kernel_rfl) rfl

theorem en_15 : ∀ args w, (callFunc 15 args).run Tryd.prog w = .ok (.enter 15 args) w := enters_of Tryd.func15 (by kernel_rfl) rfl

theorem en_16 : ∀ args w, (callFunc 16 args).run Tryd.prog w = .ok (.enter 16 args) w := enters_of Tryd.func16 (by kernel_rfl) rfl

theorem en_27 : ∀ args w, (callFunc 27 args).run Tryd.prog w = .ok (.enter 27 args) w := enters_of Tryd.func27 (by kernel_rfl) rfl

theorem en_28 : ∀ args w, (callFunc 28 args).run Tryd.prog w = .ok (.enter 28 args) w := enters_of Tryd.func28 (by kernel_rfl) rfl

theorem en_33 : ∀ args w, (callFunc 33 args).run Tryd.prog w = .ok (.enter 33 args) w := enters_of Tryd.func33 (by kernel_rfl) rfl

theorem en_34 : ∀ args w, (callFunc 34 args).run Tryd.prog w = .ok (.enter 34 args) w := enters_of Tryd.func34 (by kernel_rfl) rfl

theorem en_35 : ∀ args w, (callFunc 35 args).run Tryd.prog w = .ok (.enter 35 args) w := enters_of Tryd.func35 (by kernel_rfl) rfl

theorem en_36 : ∀ args w, (callFunc 36 args).run Tryd.prog w = .ok (.enter 36 args) w := enters_of Tryd.func36 (by kernel_rfl) rfl

theorem en_37 : ∀ args w, (callFunc 37 args).run Tryd.prog w = .ok (.enter 37 args) w := enters_of Tryd.func37 (by kernel_rfl) rfl

theorem en_38 : ∀ args w, (callFunc 38 args).run Tryd.prog w = .ok (.enter 38 args) w := enters_of Tryd.func38 (by kernel_rfl) rfl

theorem en_39 : ∀ args w, (callFunc 39 args).run Tryd.prog w = .ok (.enter 39 args) w := enters_of Tryd.func39 (by kernel_rfl) rfl

theorem en_45 : ∀ args w, (callFunc 45 args).run Tryd.prog w = .ok (.enter 45 args) w := enters_of Tryd.func45 (by kernel_rfl) rfl

theorem en_50 : ∀ args w, (callFunc 50 args).run Tryd.prog w = .ok (.enter 50 args) w := enters_of Tryd.func50 (by kernel_rfl) rfl

theorem en_53 : ∀ args w, (callFunc 53 args).run Tryd.prog w = .ok (.enter 53 args) w := enters_of Tryd.func53 (by kernel_rfl) rfl

theorem en_54 : ∀ args w, (callFunc 54 args).run Tryd.prog w = .ok (.enter 54 args) w := enters_of Tryd.func54 (by kernel_rfl) rfl

theorem en_55 : ∀ args w, (callFunc 55 args).run Tryd.prog w = .ok (.enter 55 args) w := enters_of Tryd.func55 (by kernel_rfl) rfl

theorem en_59 : ∀ args w, (callFunc 59 args).run Tryd.prog w = .ok (.enter 59 args) w := enters_of Tryd.func59 (by kernel_rfl) rfl

theorem en_75 : ∀ args w, (callFunc 75 args).run Tryd.prog w = .ok (.enter 75 args) w := enters_of Tryd.func75 (by kernel_rfl) rfl

theorem hmix : Tryd.prog.follows .mixedOrders = true := by kernel_rfl

def fracBad (x : tFraction) : Bool := !withinB x.1 1 999999 || !withinB x.2 1 999999

theorem enters_ValidFractions1 : ∀ args w, (callFunc 58 args).run Tryd.prog w = .ok (.enter 58 args) w := enters_of Tryd.func58 (by kernel_rfl) rfl

theorem impl_ValidFractions1 (es : List Value) (x : tFraction) (w : World) (h : eFraction.R w (Old w) es x) :
    Calls Tryd.prog 58 #[.agg es.toArray] w fun e w' => e = .returned (.bool (fracBad x)) ∧ Below w.heap.size w w' := by
  obtain ⟨rfl, _, _⟩ := shape_Fraction h
  clear h
  unfold fracBad
  obtain ⟨u, d⟩ := x
  cases h1 : withinB u 1 999999
  · go_enter Tryd.func58, Tryd.ntmps58
    go_wp2_with (go_at_call 24; refine (impl_within _ _ _ _).mono ?_; rintro e w' ⟨rfl, rfl⟩; rw [h1])
    go_ret
    exact ⟨by first | (simp; done) | simp [h1], (Below.refl _ _).alloc (Nat.le_refl _) _⟩
  · go_enter Tryd.func58, Tryd.ntmps58
    go_wp2_with (go_at_call 24; refine (impl_within _ _ _ _).mono ?_; rintro e w' ⟨rfl, rfl⟩; (try rw [h1]))
    go_ret
    exact ⟨by first | (simp; done) | simp [h1], (Below.refl _ _).alloc (Nat.le_refl _) _⟩

def validFrac (xs : List tFraction) : Bool := withinB xs.length 1 100 && !xs.any fracBad

theorem impl_ValidFractions (A : Option Addr) (c : Nat) (xs : List tFraction) (w : World) (h : Sl eFraction w (Old w) A c xs) :
    Calls Tryd.prog 38 #[.slice A xs.length c] w fun e w' => e = .returned (.bool (validFrac xs)) ∧ Below w.heap.size w w' := by
  unfold validFrac
  have hI := Lib.hid (ContainsFunc_Fraction fracBad 58 #[] A c xs w h enters_ValidFractions1 (fun W x es _ hb hR => impl_ValidFractions1 es x W hR)); clear h
  cases h1 : withinB xs.length 1 100
  · go_enter Tryd.func38, Tryd.ntmps38
    go_wp2_with (first | (go_at_call 56; refine (impl_size_Fraction _ _ _ _).mono ?_; rintro e w' ⟨rfl, rfl⟩) | (go_at_call 24; refine (impl_within _ _ _ _).mono ?_; rintro e w' ⟨rfl, rfl⟩; rw [h1]))
    go_ret
    exact ⟨by simp, Below.refl _ _⟩
  · go_enter Tryd.func38, Tryd.ntmps38
    go_wp2_with (first | (go_at_call 56; refine (impl_size_Fraction _ _ _ _).mono ?_; rintro e w' ⟨rfl, rfl⟩) | (go_at_call 24; refine (impl_within _ _ _ _).mono ?_; rintro e w' ⟨rfl, rfl⟩; rw [h1]) | (go_at_call 57; refine hI.out.mono ?_; rintro e w' ⟨rfl, hb⟩))
    go_ret
    exact ⟨by simp, hb⟩

set_option maxHeartbeats 400000 in
theorem spec_l08Is (A : Option Addr) (c : Nat) (xs : List tFraction) (w : World) (h : Sl eFraction w (Old w) A c xs) :
    Calls Tryd.prog 33 #[.slice A xs.length c] w fun e w' => e = .returned (.bool (validFrac xs)) ∧ w = w' := by
  unfold validFrac
  have hlen := h.len
  have H := Lib.hid h; clear h
  by_cases h1 : xs.length < 1
  · have hw : withinB xs.length 1 100 = false := by unfold withinB; simp; omega
    rw [hw]
    have h1' : (xs.length : Int) < 1 := by omega
    go_enter Tryd.func33, Tryd.ntmps33
    go_wp2
    go_ret
    exact ⟨rfl, rfl⟩
  by_cases h2 : xs.length > 100
  · have hw : withinB xs.length 1 100 = false := by unfold withinB; simp; omega
    rw [hw]
    have h1' : decide ((xs.length : Int) < 1) = false := by simp; omega
    have h2' : (100 : Int) < (xs.length : Int)  := by omega
    go_enter Tryd.func33, Tryd.ntmps33
    go_wp2
    go_ret
    exact ⟨rfl, rfl⟩
  have hw : withinB xs.length 1 100 = true := by unfold withinB; simp; omega
  rw [hw]; clear hw
  have h1' : decide ((xs.length : Int) < 1) = false := by simp; omega
  have h2' : decide ((100 : Int) < (xs.length : Int)) = false := by simp; omega
  go_enter Tryd.func33, Tryd.ntmps33
  go_wp2
  go_loop [3] (fun i => ∃ k : Nat, k ≤ xs.length ∧ i = .int .i64 k ∧ Hid ((xs.take k).any fracBad = false)) (fun i => xs.length - (intOf i).toNat)
  case atStart => exact ⟨0, Nat.zero_le _, rfl, rfl⟩
  case round =>
    obtain ⟨k, hk, rfl, HN⟩ := hrel
    by_cases hlt : k < xs.length
    · have hltz : (k : Int) < (xs.length : Int) := by omega
      obtain ⟨b, off, es, rfl, hb, hR, hc⟩ := H.out.at hlt
      obtain ⟨rfl, hi1, hi2⟩ := shape_Fraction hR
      have c0 : w.cell? ⟨b, off + k * 2, none⟩ = some (.int .i64 xs[k].1) := hc 0 _ rfl
      have c1 : w.cell? ⟨b, off + k * 2 + 1, none⟩ = some (.int .i64 xs[k].2) := hc 1 _ rfl
      clear hc hR hi1 hi2
      have HF : Hid (fracBad xs[k] = (!withinB xs[k].1 1 999999 || !withinB xs[k].2 1 999999)) := rfl
      have HT : Hid (fracBad xs[k] = true → xs.any fracBad = true) := fun e => any_hit hlt e
      have HS : Hid (fracBad xs[k] = false → (xs.take (k + 1)).any fracBad = false) := fun e => any_step hlt HN.out e
      generalize xs[k] = y at c0 c1 HF HT HS
      obtain ⟨u, d⟩ := y
      cases q1 : withinB u 1 999999
      · go_wp2_with (go_at_call 22; refine (spec_l00In _ _ _ _).mono ?_; rintro e w' ⟨rfl, rfl⟩; rw [q1])
        go_ret
        exact ⟨by rw [HT.out (by rw [HF.out]; simp [q1])]; rfl, rfl⟩
      · cases q2 : withinB d 1 999999
        · go_wp2_with (go_at_call 22; refine (spec_l00In _ _ _ _).mono ?_; rintro e w' ⟨rfl, rfl⟩; first | rw [q1] | rw [q2])
          go_ret
          exact ⟨by rw [HT.out (by rw [HF.out]; simp [q1, q2])]; rfl, rfl⟩
        · go_wp2_with (go_at_call 22; refine (spec_l00In _ _ _ _).mono ?_; rintro e w' ⟨rfl, rfl⟩; first | rw [q1] | rw [q2])
          go_round
          case rel => exact ⟨k + 1, by omega, by go_num, HS.out (by rw [HF.out]; simp [q1, q2])⟩
          case measure => simp [intOf]; omega
    · have hltz : ¬ (k : Int) < (xs.length : Int) := by omega
      obtain rfl : k = xs.length := by omega
      go_wp2
      go_ret
      refine ⟨?_, rfl⟩
      have := HN.out
      rw [List.take_length] at this
      rw [this]; rfl

theorem validFrac_facts {xs : List tFraction} (h : validFrac xs = true) : xs.length ≤ 100 ∧ ∀ x ∈ xs, (1 ≤ x.1 ∧ x.1 ≤ 999999) ∧ 1 ≤ x.2 ∧ x.2 ≤ 999999 := by
  unfold validFrac at h
  simp only [Bool.and_eq_true, Bool.not_eq_true', List.any_eq_false] at h
  have h1 := withinB_true.1 h.1
  refine ⟨by omega, fun x hx => ?_⟩
  have := h.2 x hx
  unfold fracBad at this
  simp only [Bool.or_eq_true, not_or, Bool.not_eq_true', Bool.not_eq_false] at this
  have h2 := withinB_true.1 this.1
  have h3 := withinB_true.1 this.2
  omega

/-- The library's table that the decimal forms are made with. -/
def Glob (w : World) : Prop := Lib.TabIs Tryd.prog w "internal/strconv.uint64pow10" .u64 Lib.pow10Tab

theorem globNum : Tryd.prog.globalNamed "internal/strconv.uint64pow10" = some 5 := by kernel_rfl

theorem Held.glob {w0 w : World} {rs : List Res} (h : Held Nob w0 rs w) (hG : Glob w0) : Glob w := tab_below globNum hG h.below

theorem grow_below (w : World) (k : Nat) (os : Array Obj) : Below w.heap.size w (Go.Sort.grow (w.drewN k) os) :=
  ⟨rfl, rfl, rfl, by show w.heap.size ≤ (w.heap ++ os).size; rw [Array.size_append]; omega, fun b hb => Go.Sort.heap_grow_old (w.drewN k) os hb⟩

def shelf_M173_ren : Go.Shelf.Ren := ⟨fun | 173 => 75 | 246 => 99 | 283 => 112 | 284 => 113 | 285 => 114 | 286 => 115 | 129 => 118 | 317 => 117 | 318 => 119 | 319 => 120 | 320 => 121 | 337 => 122 | 338 => 123 | n => n, fun | 2 => 2 | 3 => 3 | 9 => 9 | 4 => 4 | 171 => 141 | 0 => 0 | 53 => 117 | 37 => 92 | 5 => 5 | 173 => 144 | 212 => 150 | 51 => 132 | 20 => 20 | 213 => 151 | 46 => 115 | 232 => 155 | 233 => 156 | n => n, fun | 17 => 5 | 18 => 6 | 19 => 7 | n => n⟩

theorem shelf_M173 : Go.Proofs.LaysM.n173 Tryd.prog shelf_M173_ren := {
  mixed := by kernel_rfl
  f129 := Tryd.func118.trans (congrArg some (by kernel_rfl))
  f173 := Tryd.func75.trans (congrArg some (by kernel_rfl))
  f246 := Tryd.func99.trans (congrArg some (by kernel_rfl))
  f283 := Tryd.func112.trans (congrArg some (by kernel_rfl))
  f284 := Tryd.func113.trans (congrArg some (by kernel_rfl))
  f285 := Tryd.func114.trans (congrArg some (by kernel_rfl))
  f286 := Tryd.func115.trans (congrArg some (by kernel_rfl))
  f317 := Tryd.func117.trans (congrArg some (by kernel_rfl))
  f318 := Tryd.func119.trans (congrArg some (by kernel_rfl))
  f319 := Tryd.func120.trans (congrArg some (by kernel_rfl))
  f320 := Tryd.func121.trans (congrArg some (by kernel_rfl))
  f337 := Tryd.func122.trans (congrArg some (by kernel_rfl))
  f338 := Tryd.func123.trans (congrArg some (by kernel_rfl))
  t0 := Tryd.underlying0
  a0 := Tryd.isAgg0
  z0 := Tryd.sizeOf0
  v0 := Tryd.zeroValue0
  t2 := Tryd.underlying2
  a2 := Tryd.isAgg2
  z2 := Tryd.sizeOf2
  v2 := Tryd.zeroValue2
  t3 := Tryd.underlying3
  a3 := Tryd.isAgg3
  z3 := Tryd.sizeOf3
  v3 := Tryd.zeroValue3
  t4 := Tryd.underlying4
  a4 := Tryd.isAgg4
  z4 := Tryd.sizeOf4
  v4 := Tryd.zeroValue4
  t5 := Tryd.underlying5
  a5 := Tryd.isAgg5
  z5 := Tryd.sizeOf5
  v5 := Tryd.zeroValue5
  t9 := Tryd.underlying9
  a9 := Tryd.isAgg9
  z9 := Tryd.sizeOf9
  v9 := Tryd.zeroValue9
  t20 := Tryd.underlying20
  a20 := Tryd.isAgg20
  z20 := Tryd.sizeOf20
  v20 := Tryd.zeroValue20
  t37 := Tryd.underlying92
  a37 := Tryd.isAgg92
  z37 := Tryd.sizeOf92
  v37 := Tryd.zeroValue92
  t46 := Tryd.underlying115
  a46 := Tryd.isAgg115
  z46 := Tryd.sizeOf115
  v46 := Tryd.zeroValue115
  t51 := Tryd.underlying132
  a51 := Tryd.isAgg132
  z51 := Tryd.sizeOf132
  v51 := Tryd.zeroValue132
  t53 := Tryd.underlying117
  a53 := Tryd.isAgg117
  z53 := Tryd.sizeOf117
  v53 := Tryd.zeroValue117
  t171 := Tryd.underlying141
  a171 := Tryd.isAgg141
  z171 := Tryd.sizeOf141
  v171 := Tryd.zeroValue141
  t173 := Tryd.underlying144
  a173 := Tryd.isAgg144
  z173 := Tryd.sizeOf144
  v173 := Tryd.zeroValue144
  t212 := Tryd.underlying150
  a212 := Tryd.isAgg150
  z212 := Tryd.sizeOf150
  v212 := Tryd.zeroValue150
  t213 := Tryd.underlying151
  a213 := Tryd.isAgg151
  z213 := Tryd.sizeOf151
  t232 := Tryd.underlying155
  a232 := Tryd.isAgg155
  z232 := Tryd.sizeOf155
  v232 := Tryd.zeroValue155
  t233 := Tryd.underlying156
  a233 := Tryd.isAgg156
  z233 := Tryd.sizeOf156
  v233 := Tryd.zeroValue156
  g17 := by kernel_rfl
  g18 := by kernel_rfl
  g19 := by kernel_rfl
  i0 := by kernel_rfl
  i2 := by kernel_rfl
  i3 := by kernel_rfl
  i4 := by kernel_rfl
  i5 := by kernel_rfl
  i9 := by kernel_rfl
  i20 := by kernel_rfl
  i37 := by kernel_rfl
  i46 := by kernel_rfl
  i51 := by kernel_rfl
  i53 := by kernel_rfl
  i171 := by kernel_rfl
  i173 := by kernel_rfl
  i212 := by kernel_rfl
  i232 := by kernel_rfl
  i233 := by kernel_rfl
  m17 := by kernel_rfl
  m18 := by kernel_rfl
  m19 := by kernel_rfl }

def shelf_156_ren : Go.Shelf.Ren := ⟨fun | 156 => 59 | 165 => 66 | 166 => 68 | 169 => 70 | 240 => 87 | 241 => 88 | 276 => 103 | 277 => 104 | n => n, fun | 31 => 43 | 9 => 9 | 3 => 3 | 4 => 4 | 0 => 0 | 20 => 20 | 72 => 94 | 76 => 96 | 70 => 91 | 37 => 92 | 75 => 76 | 127 => 113 | 164 => 125 | 5 => 5 | 80 => 100 | n => n, fun | n => n⟩

theorem shelf_156 : Go.Proofs.Lays.n156 Tryd.prog shelf_156_ren := {
  mixed := by kernel_rfl
  f156 := Tryd.func59.trans (congrArg some (by kernel_rfl))
  f165 := Tryd.func66.trans (congrArg some (by kernel_rfl))
  f166 := Tryd.func68.trans (congrArg some (by kernel_rfl))
  f169 := Tryd.func70.trans (congrArg some (by kernel_rfl))
  f240 := Tryd.func87.trans (congrArg some (by kernel_rfl))
  f241 := Tryd.func88.trans (congrArg some (by kernel_rfl))
  f276 := Tryd.func103.trans (congrArg some (by kernel_rfl))
  f277 := Tryd.func104.trans (congrArg some (by kernel_rfl))
  t0 := Tryd.underlying0
  a0 := Tryd.isAgg0
  z0 := Tryd.sizeOf0
  v0 := Tryd.zeroValue0
  t3 := Tryd.underlying3
  a3 := Tryd.isAgg3
  z3 := Tryd.sizeOf3
  v3 := Tryd.zeroValue3
  t4 := Tryd.underlying4
  a4 := Tryd.isAgg4
  z4 := Tryd.sizeOf4
  v4 := Tryd.zeroValue4
  t9 := Tryd.underlying9
  a9 := Tryd.isAgg9
  z9 := Tryd.sizeOf9
  v9 := Tryd.zeroValue9
  t20 := Tryd.underlying20
  a20 := Tryd.isAgg20
  z20 := Tryd.sizeOf20
  v20 := Tryd.zeroValue20
  t31 := Tryd.underlying43
  a31 := Tryd.isAgg43
  z31 := Tryd.sizeOf43
  v31 := Tryd.zeroValue43
  t37 := Tryd.underlying92
  a37 := Tryd.isAgg92
  z37 := Tryd.sizeOf92
  v37 := Tryd.zeroValue92
  t70 := Tryd.underlying91
  a70 := Tryd.isAgg91
  z70 := Tryd.sizeOf91
  v70 := Tryd.zeroValue91
  t72 := Tryd.underlying94
  a72 := Tryd.isAgg94
  z72 := Tryd.sizeOf94
  v72 := Tryd.zeroValue94
  t75 := Tryd.underlying76
  a75 := Tryd.isAgg76
  z75 := Tryd.sizeOf76
  v75 := Tryd.zeroValue76
  t76 := Tryd.underlying96
  a76 := Tryd.isAgg96
  z76 := Tryd.sizeOf96
  v76 := Tryd.zeroValue96
  t127 := Tryd.underlying113
  a127 := Tryd.isAgg113
  z127 := Tryd.sizeOf113
  v127 := Tryd.zeroValue113
  t164 := Tryd.underlying125
  a164 := Tryd.isAgg125
  z164 := Tryd.sizeOf125
  v164 := Tryd.zeroValue125 }

theorem shelf_X_Builder_Extra_156 : Builder.Extra Tryd.prog shelf_156_ren where
  sizeBuilder := by kernel_rfl
  liesBuilder := by kernel_rfl
  t5 := Tryd.underlying5
  a5 := Tryd.isAgg5
  z5 := Tryd.sizeOf5
  v5 := Tryd.zeroValue5
  infoByte := by kernel_rfl
  cellsByte := by kernel_rfl
  sizeByte := by kernel_rfl
  neB5 := by decide

theorem FormatInt_10 (a0 a1 : Int) (w : World) (hG : Glob w) (s0 : -9223372036854775808 ≤ a0 ∧ a0 ≤ 9223372036854775807) (s1 : a1 = 10) :
    Calls Tryd.prog 75 #[.int .i64 a0, .int .i64 a1] w fun e w' => e = .returned (.string (bs (Go.Lib.itoa a0))) ∧ Below w.heap.size w w' := by
  subst s1
  refine (show Calls Tryd.prog 75 #[.int .i64 a0, .int .i64 10] w _ from Any.strconv_FormatInt_10 shelf_M173 a0 s0.1 s0.2 w hG).mono ?_
  rintro e w' ⟨rfl, k, os, rfl⟩
  exact ⟨rfl, grow_below _ _ _⟩

theorem map_bs (xs : List (List UInt8)) : (xs.map bs).map (fun x : ByteArray => x.data.toList) = xs := by
  rw [List.map_map]
  exact (List.map_congr_left fun x _ => by simp [bs]).trans (List.map_id xs)

theorem Join_Str (A : Option Addr) (c : Nat) (a0 : List (List UInt8)) (a1 : List UInt8) (w : World) (h0 : Sl eTxt w (Old w) A c a0) (s0 : a0.length ≤ 1000000000) (s1 : (Go.Lib.join a0 a1).length ≤ 1000000000) :
    Calls Tryd.prog 59 #[.slice A a0.length c, .string (bs a1)] w fun e w' => e = .returned (.string (bs (Go.Lib.join a0 a1))) ∧ Below w.heap.size w w' := by
  by_cases hx : a0 = []
  · subst hx
    refine (show Calls Tryd.prog 59 #[.slice A 0 c, .string (bs a1)] w _ from Any.strings_Join_none shelf_156 shelf_X_Builder_Extra_156 A c (bs a1) w).mono ?_
    rintro e w' ⟨rfl, rfl⟩
    exact ⟨rfl, Below.refl _ _⟩
  · obtain ⟨b, off, rfl, hb, hc⟩ := h0.2.2 hx
    have hl : a0.length = (a0.map bs).length := (List.length_map _).symm
    have hj : Go.Lib.join ((a0.map bs).map (·.data.toList)) (bs a1).data.toList = Go.Lib.join a0 a1 := by rw [map_bs]
    rw [hl]
    refine (show Calls Tryd.prog 59 #[.slice (some ⟨b, off, none⟩) (a0.map bs).length c, .string (bs a1)] w _ from Any.strings_Join shelf_156 shelf_X_Builder_Extra_156 b off c (a0.map bs) (bs a1) w ?_ hb (by rw [← hl]; omega) (by rw [← hl]; exact h0.1) (by rw [hj]; omega)).mono ?_
    · intro j x hjx
      rw [List.getElem?_map, Option.map_eq_some_iff] at hjx
      obtain ⟨y, hy, rfl⟩ := hjx
      obtain ⟨es, ⟨rfl, _⟩, h2⟩ := hc j y hy
      have := h2 0 _ rfl
      rwa [show off + j * eTxt.size + 0 = off + j from by simp [eTxt]] at this
    · rintro e w' ⟨rfl, h2⟩
      rw [hj]
      exact ⟨rfl, h2⟩

/-- The decimal digits of a number, the last one first, as bytes; none for 0. -/
def lowD (n : Nat) : List Int := if h : n = 0 then [] else (48 + (n % 10 : Nat) : Int) :: lowD (n / 10)
termination_by n
decreasing_by omega

theorem lowD_zero : lowD 0 = [] := by rw [lowD, dif_pos rfl]

theorem lowD_pos {n : Nat} (h : 0 < n) : lowD n = (48 + (n % 10 : Nat) : Int) :: lowD (n / 10) := by rw [lowD, dif_neg (by omega)]

theorem bytesOf_app (a b : List Int) : Go.Lib.bytesOf (a ++ b) = Go.Lib.bytesOf a ++ Go.Lib.bytesOf b := by simp [Go.Lib.bytesOf]

theorem bytesOf_one (a : Nat) : Go.Lib.bytesOf [(48 + (a : Nat) : Int)] = [UInt8.ofNat (48 + a)] := by
  simp only [Go.Lib.bytesOf, List.map_cons, List.map_nil]
  rw [show (48 + (a : Int)).toNat = 48 + a from by omega]

theorem lowD_dec (n : Nat) (h : 0 < n) : Go.Lib.bytesOf (lowD n).reverse = Go.Lib.decDigits n := by
  induction n using Nat.strongRecOn with
  | _ n ih =>
    rw [lowD_pos h, List.reverse_cons, bytesOf_app, bytesOf_one, Go.Lib.decDigits]
    by_cases h1 : n < 10
    · rw [dif_pos h1, show n / 10 = 0 from by omega, lowD_zero, Nat.mod_eq_of_lt h1]; rfl
    · rw [dif_neg h1, ih (n / 10) (by omega) (by omega)]

theorem nDigits_le (k : Nat) : ∀ n : Nat, n < 10 ^ (k + 1) → Go.Lib.nDigits n ≤ k + 1 := by
  induction k with
  | zero => intro n h; rw [Go.Lib.nDigits_small (by simpa using h)]; omega
  | succ k ih =>
    intro n h
    by_cases h1 : n < 10
    · rw [Go.Lib.nDigits_small h1]; omega
    · rw [Go.Lib.nDigits_big h1]; have := ih (n / 10) (by rw [Nat.pow_succ] at h; omega); omega

theorem itoa_len {n : Int} (h : -9223372036854775808 ≤ n ∧ n ≤ 9223372036854775807) : 1 ≤ (Go.Lib.itoa n).length ∧ (Go.Lib.itoa n).length ≤ 20 := by
  unfold Go.Lib.itoa
  split
  · have h1 := nDigits_le 18 n.natAbs (by omega)
    have h2 := Go.Lib.nDigits_pos n.natAbs
    rw [List.length_cons, Go.Lib.decDigits_length]; omega
  · have h1 := nDigits_le 18 n.toNat (by omega)
    have h2 := Go.Lib.nDigits_pos n.toNat
    rw [Go.Lib.decDigits_length]; omega

theorem itoa_low {n : Int} (h : 0 < n) : Go.Lib.itoa n = Go.Lib.bytesOf (lowD n.toNat).reverse := by
  rw [lowD_dec _ (by omega)]; unfold Go.Lib.itoa; rw [if_neg (by omega)]

theorem join_snoc (xs : List (List UInt8)) (y sep : List UInt8) : Go.Lib.join (xs ++ [y]) sep = if xs = [] then y else Go.Lib.join xs sep ++ sep ++ y := by
  cases xs with
  | nil => rw [if_pos rfl, List.nil_append, Go.Lib.join_one]
  | cons x r => rw [if_neg (by simp), List.cons_append, Go.Lib.join_cons, Go.Lib.join_cons]; simp [Go.Lib.joinTail]

theorem join_step {α : Type} (f : α → List UInt8) (l : List α) {k : Nat} (hk : k < l.length) (sep : List UInt8) : Go.Lib.join ((l.take (k + 1)).map f) sep = if k = 0 then f l[k] else Go.Lib.join ((l.take k).map f) sep ++ sep ++ f l[k] := by
  rw [List.take_succ_eq_append_getElem hk, List.map_append, List.map_cons, List.map_nil, join_snoc]
  by_cases h : k = 0
  · subst h; simp
  · rw [if_neg h, if_neg]
    intro h2
    have h3 := congrArg List.length h2
    rw [List.length_map, List.length_take, List.length_nil] at h3
    omega

theorem join_len (B : Nat) (sep : List UInt8) : ∀ xs : List (List UInt8), (∀ x ∈ xs, x.length ≤ B) → (Go.Lib.join xs sep).length ≤ xs.length * (B + sep.length)
  | [], _ => by simp [Go.Lib.join_nil]
  | x :: r, h => by
    have h1 := h x (by simp)
    have h2 : Go.Lib.lens r ≤ r.length * B := by
      have h3 : ∀ y ∈ r, y.length ≤ B := fun y hy => h y (by simp [hy])
      clear h
      induction r with
      | nil => simp [Go.Lib.lens]
      | cons y r ih =>
        have h4 := ih fun z hz => h3 z (by simp [hz])
        have h5 := h3 y (by simp)
        simp only [Go.Lib.lens, List.map_cons, List.sum_cons, List.length_cons, Nat.succ_mul] at h4 ⊢
        omega
    rw [Go.Lib.join_length, List.length_cons, Nat.succ_mul]
    simp only [Go.Lib.lens, List.map_cons, List.sum_cons] at h2 ⊢
    have h6 : sep.length * r.length = r.length * sep.length := Nat.mul_comm _ _
    have h7 : r.length * (B + sep.length) = r.length * B + r.length * sep.length := Nat.mul_add _ _ _
    omega

theorem drop_revI {α : Type} {l : List α} {k : Nat} (h0 : 0 < k) (h1 : k ≤ l.length) : (l.drop (k - 1)).reverse = (l.drop k).reverse ++ [l[k - 1]] := by
  rw [List.drop_eq_getElem_cons (by omega : k - 1 < l.length), List.reverse_cons, show k - 1 + 1 = k from by omega]

theorem Sl.i64 {w : World} {S : Nat → Prop} {A : Option Addr} {c : Nat} {xs : List Int} (h : Sl eInt w S A c xs) : ∀ x ∈ xs, -9223372036854775808 ≤ x ∧ x ≤ 9223372036854775807 := by
  intro x hx
  obtain ⟨i, hi⟩ := List.mem_iff_getElem?.1 hx
  obtain ⟨b, off, _, _, hc⟩ := h.2.2 (fun e => by rw [e] at hx; cases hx)
  obtain ⟨es, ⟨_, h1⟩, _⟩ := hc i x hi
  exact h1

theorem join_take_len {α : Type} {f : α → List UInt8} {l : List α} {sep : List UInt8} {B : Nat} (h : ∀ x ∈ l, (f x).length + sep.length ≤ B) (k : Nat) : (Go.Lib.join ((l.take k).map f) sep).length ≤ B * l.length := by
  by_cases hn : l = []
  · subst hn; simp [Go.Lib.join_nil]
  · obtain ⟨x0, hx0⟩ := List.exists_mem_of_ne_nil l hn
    have hs := h x0 hx0
    have h1 := join_len (B - sep.length) sep ((l.take k).map f) (by
      intro y hy
      obtain ⟨x, hx, rfl⟩ := List.mem_map.1 hy
      have := h x (List.mem_of_mem_take hx)
      omega)
    rw [List.length_map, List.length_take, show B - sep.length + sep.length = B from by omega] at h1
    have h2 : min k l.length * B ≤ l.length * B := Nat.mul_le_mul_right _ (by omega)
    rw [Nat.mul_comm B]
    omega

theorem join_step0 {α : Type} (f : α → List UInt8) (l : List α) {k : Nat} (hk : k < l.length) (h0 : k = 0) (sep : List UInt8) : Go.Lib.join ((l.take (k + 1)).map f) sep = Go.Lib.join ((l.take k).map f) sep ++ f l[k] := by
  rw [join_step f l hk, if_pos h0]; subst h0; simp [Go.Lib.join_nil]

theorem join_step1 {α : Type} (f : α → List UInt8) (l : List α) {k : Nat} (hk : k < l.length) (h0 : 0 < k) (sep : List UInt8) : Go.Lib.join ((l.take (k + 1)).map f) sep = Go.Lib.join ((l.take k).map f) sep ++ sep ++ f l[k] := by
  rw [join_step f l hk, if_neg (by omega)]

set_option maxRecDepth 100000 in
set_option maxHeartbeats 4000000 in
theorem impl_Decimal (a0 : Int) (w : World) (hG : Glob w) (s0 : -9223372036854775808 ≤ a0 ∧ a0 ≤ 9223372036854775807) :
    Calls Tryd.prog 54 #[.int .i64 a0] w fun e w' => e = .returned (.string (bs (Go.Lib.itoa a0))) ∧ Below w.heap.size w w' := by
  have HH1 := Held.start Nob w
  refine enter (n := 5) Tryd.func54 rfl rfl rfl fun a_2 HE3 => ?_
  refine wp_seq ?_
  refine rg ?_
  refine pl_x HE3 HH1 (wt0 rfl) (x_assign rfl) rfl rfl fun a_4 HE5 => ?_
  refine wpList_nil ?_
  clear a_2 HE3
  refine nrm ?_
  refine wp_seq ?_
  refine rg ?_
  refine pl_x HE5 HH1 (wt0 rfl) (x_move rfl) rfl rfl fun a_6 HE7 => ?_
  refine pl fun K_8 hK9 => ?_
  refine st_call HE7 (wt0 rfl) rfl rfl rfl en_75 rfl rfl (FormatInt_10 a0 10 _ (HH1.glob hG) (by omega) (by rfl)) fun e w' hr => ?_
  have hAr21_0 := itoa_len (n := a0) (by omega)
  obtain ⟨rfl, hbr21⟩ := hr
  have HH10 := HH1.on hbr21
  refine ⟨_, rfl, fun a_11 HE12 => hK9 _ _ ?_⟩
  refine pl_x HE12 HH10 (wt0 rfl) (x_assign rfl) rfl rfl fun a_13 HE14 => ?_
  refine wpList_nil ?_
  clear a_4 HE5 HH1 a_6 HE7 a_11 HE12 hK9 K_8
  refine nrm ?_
  refine wp_ret ?_
  refine ret1 HE14 rfl (rv_tmp rfl) ?_
  have hF : (Go.Lib.itoa a0) = (Go.Lib.itoa a0) := by
    first | rfl | (simp [Go.Lib.itoa]; done) | (simp [Go.Lib.itoa]; omega) | grind [Go.Lib.itoa]
  exact ⟨by first | (rw [hF] <;> rfl) | rfl | (rw [hF]; simp only [Ending.returned.injEq, Value.slice.injEq, true_and, and_true]; first | omega | (simp; done)) | (rw [hF]; simp; omega), HH10.below⟩

set_option maxRecDepth 100000 in
set_option maxHeartbeats 4000000 in
theorem spec_l01Dec (a0 : Int) (w : World) (s0 : 0 ≤ a0 ∧ a0 ≤ 100000000000000) :
    Calls Tryd.prog 50 #[.int .i64 a0] w fun e w' => e = .returned (.string (bs (Go.Lib.itoa a0))) ∧ Below w.heap.size w w' := by
  have HH1 := Held.start Nob w
  refine enter (n := 50) Tryd.func50 rfl rfl rfl fun a_2 HE3 => ?_
  refine wp_seq ?_
  refine rg ?_
  refine pl_x HE3 HH1 (wt0 rfl) (x_assign rfl) rfl rfl fun a_4 HE5 => ?_
  refine wpList_nil ?_
  clear a_2 HE3
  refine nrm ?_
  refine wp_seq ?_
  refine wp_seq ?_
  refine rg ?_
  refine pl_x HE5 HH1 (wt0 rfl) (x_move rfl) rfl rfl fun a_6 HE7 => ?_
  refine pl_x HE7 HH1 (wt0 rfl) (x_eql rfl rfl) rfl rfl fun a_8 HE9 => ?_
  refine wpList_nil ?_
  clear a_4 HE5 a_6 HE7
  refine nrm ?_
  refine cnd_e HE9 rfl (fun hc21 => ?_) (fun hc21 => ?_)
  · refine wp_seq ?_
    refine rg ?_
    refine pl_x HE9 HH1 (wt0 rfl) (x_assign rfl) rfl rfl fun a_10 HE11 => ?_
    refine wpList_nil ?_
    clear a_8 HE9
    refine nrm ?_
    refine wp_ret ?_
    refine (thn_ret ?_)
    refine ret1 HE11 rfl (rv_tmp rfl) ?_
    have hF : (Go.Lib.itoa a0) = [48] := by
      first | (rw [show a0 = 0 from by omega]; simp [Go.Lib.itoa, Go.Lib.decDigits]; done) | (rw [itoa_low (by omega), ‹lowD a0.toNat = _›, show u = 0 from by omega, lowD_zero, List.append_nil, show k = 0 from by omega, List.drop_zero])
    exact ⟨by first | (rw [hF] <;> rfl) | rfl | (rw [hF]; simp only [Ending.returned.injEq, Value.slice.injEq, true_and, and_true]; first | omega | (simp; done)) | (rw [hF]; simp; omega), HH1.below⟩
  · refine wp_skip ?_
    refine nrm ?_
    refine wp_seq ?_
    refine rg ?_
    refine pl fun K_12 hK13 => ?_
    refine st_lit (m := 0) (cs := []) (e := 5) HE9 HH1 (run_lit ts_92 HE9 (vs := []) rfl rfl (by simp [Value.cells]) rfl (by decide)) (wt0 rfl) rfl rfl fun q22 a_14 w' HE15 HH16 => hK13 _ _ ?_
    refine pl_x HE15 HH16 (wt0 rfl) (x_assign rfl) rfl rfl fun a_17 HE18 => ?_
    refine wpList_nil ?_
    clear a_8 HE9 HH1 a_14 HE15 hK13 K_12
    refine nrm ?_
    refine wp_seq ?_
    refine wp_seq ?_
    refine rg ?_
    refine pl_x HE18 HH16 (wt0 rfl) (x_move rfl) rfl rfl fun a_19 HE20 => ?_
    refine pl_x HE20 HH16 (wt0 rfl) (x_assign rfl) rfl rfl fun a_21 HE22 => ?_
    refine wpList_nil ?_
    clear a_17 HE18 a_19 HE20
    refine nrm ?_
    refine wp_block ?_
    have HH23 := Held.vecFlat (E := eByte) (xs := []) (css := []) HH16 rfl (Nat.zero_le _) (fun i x hx => by simp at hx)
    refine lp (fun m a w' => ∃ (u : Nat) (l : List Int) (A_3 : Option Addr) (c_3 : Nat) (S_3 : Nat → Prop), m = 0 + u ∧ Env 50 [(3, .slice A_3 (List.length l) c_3), (4, .int .i64 (u : Int)), (0, .int .i64 (a0))] a ∧ Held Nob w [rVec eByte 5 S_3 A_3 c_3 l] w' ∧ (lowD a0.toNat = l ++ lowD u) ∧ (l.length + u ≤ a0.toNat)) (0 + (a0.toNat)) ?_ ?_
    · have E23 : ([]) = ([] : List Int) := by
        first | rfl | simp
      exact ⟨a0.toNat, [], (some ⟨q22, 0, none⟩), (List.length (α := Int) []), (fun b => b = q22), rfl, HE22.sub ⟨(by rw [E23]; rfl), (lkI rfl (by omega)), rfl, trivial⟩, ((HH23.sel [0] (by decide) rfl).to (by first | rfl | (rw [E23]; done) | (rw [E23]; rfl) | (simp only [E23]; done) | (simp only [E23]; rfl) | (rw [E23]; simp only [List.length_set]; done))), (by rfl), (by first | omega | assumption | (simp; done) | simp_all)⟩
    · rintro m a_24 w' ⟨u, l, A_3, c_3, S_3, rfl, HE25, HH26, p24_0, p24_1⟩
      refine wp_seq ?_
      refine wp_seq ?_
      refine rg ?_
      refine pl_x HE25 HH26 (wt0 rfl) (x_move rfl) rfl rfl fun a_27 HE28 => ?_
      refine pl_x HE28 HH26 (wt0 rfl) (x_neq rfl rfl) rfl rfl fun a_29 HE30 => ?_
      refine wpList_nil ?_
      clear HH16 a_21 HE22 HH23 a_24 HE25 a_27 HE28
      refine nrm ?_
      refine cnd_ne HE30 rfl (fun hc25 => ?_) (fun hc25 => ?_)
      · refine wp_skip ?_
        refine nrm ?_
        refine wp_seq ?_
        refine wp_block ?_
        refine wp_seq ?_
        refine rg ?_
        refine pl_x HE30 HH26 (wt0 rfl) (x_move rfl) rfl rfl fun a_31 HE32 => ?_
        refine pl_x HE32 HH26 (wt0 rfl) (x_rem rfl rfl (by omega) (by omega)) rfl rfl fun a_33 HE34 => ?_
        refine pl_x HE34 HH26 (wt0 rfl) (x_assign rfl) rfl rfl fun a_35 HE36 => ?_
        refine wpList_nil ?_
        clear a_29 HE30 a_31 HE32 a_33 HE34
        refine nrm ?_
        refine wp_seq ?_
        refine wp_seq ?_
        refine rg ?_
        refine pl_x HE36 HH26 (wt0 rfl) (x_move rfl) rfl rfl fun a_37 HE38 => ?_
        refine pl_x HE38 HH26 (wt0 rfl) (x_lss rfl rfl) rfl rfl fun a_39 HE40 => ?_
        refine wpList_nil ?_
        clear a_35 HE36 a_37 HE38
        refine nrm ?_
        refine cnd_d HE40 rfl (fun hc26 => ?_) (fun hc26 => ?_)
        · exfalso; omega
        · refine wp_skip ?_
          refine nrm ?_
          refine rg ?_
          refine pl_x HE40 HH26 (wt0 rfl) (x_move rfl) rfl rfl fun a_41 HE42 => ?_
          refine pl_x HE42 HH26 (wt0 rfl) (x_move rfl) rfl rfl fun a_43 HE44 => ?_
          refine pl_x HE44 HH26 (wt0 rfl) (x_add rfl rfl (by exact ⟨by omega, by omega⟩)) rfl rfl fun a_45 HE46 => ?_
          refine pl_x HE46 HH26 (wt0 rfl) (x_conv8 Tryd.underlying2 Tryd.underlying5 rfl (by constructor <;> omega)) rfl rfl fun a_47 HE48 => ?_
          refine pl fun K_49 hK50 => ?_
          refine st_lit (m := 1) (cs := [.int .u8 ((48 + ((u : Int) % 10)))]) (e := 5) HE48 HH26 (run_lit ts_92 HE48 (vs := [.int .u8 ((48 + ((u : Int) % 10)))]) rfl rfl (by simp [Value.cells]) rfl (by decide)) (wt0 rfl) rfl rfl fun q27 a_51 w' HE52 HH53 => hK50 _ _ ?_
          refine pl fun K_54 hK55 => ?_
          refine st_app1F (48 + ((u : Int) % 10)) HE52 HH53 ts_92 [1, 0] (by decide) rfl (fun _ => (oY (by constructor <;> omega))) rfl rfl (by simp [Value.oneCell']) (by unfold maxLen; first | omega | (simp; done) | (simp; omega)) (by first | omega | (simp; done) | (simp; omega)) (wt0 rfl) rfl fun A28 c29 S30 a_56 w' HE57 HH58 => hK55 _ _ ?_
          refine pl_x HE57 HH58 (wt0 rfl) (x_assign rfl) rfl rfl fun a_59 HE60 => ?_
          refine wpList_nil ?_
          clear a_39 HE40 a_41 HE42 a_43 HE44 a_45 HE46 a_47 HE48 HH26 K_49 hK50 a_51 HE52 HH53 a_56 HE57 hK55 K_54
          refine blk_n ?_
          refine nrm ?_
          refine rg ?_
          refine pl_x HE60 HH58 (wt0 rfl) (x_move rfl) rfl rfl fun a_61 HE62 => ?_
          refine pl_x HE62 HH58 (wt0 rfl) (x_quo rfl rfl (by omega) (by omega) (by omega)) rfl rfl fun a_63 HE64 => ?_
          refine pl_x HE64 HH58 (wt0 rfl) (x_assign rfl) rfl rfl fun a_65 HE66 => ?_
          refine wpList_nil ?_
          clear a_59 HE60 a_61 HE62 a_63 HE64
          have E31 : ((l ++ [(48 + ((u : Int) % 10))])) = (l ++ [(48 + ((u : Int) % 10))]) := by
            first | rfl | simp
          exact nrm ⟨0 + (u / 10), (by omega), u / 10, (l ++ [(48 + ((u : Int) % 10))]), A28, c29, S30, rfl, HE66.sub ⟨(by rw [E31]; rfl), (lkI rfl (by omega)), rfl, trivial⟩, ((HH58.sel [0] (by decide) rfl).to (by first | rfl | (rw [E31]; done) | (rw [E31]; rfl) | (simp only [E31]; done) | (simp only [E31]; rfl) | (rw [E31]; simp only [List.length_set]; done))), (by rw [p24_0, lowD_pos (by omega)]; simp), (by simp; omega)⟩
      · refine wp_exit ?_
        refine (thn_exit (thn_exit (blk_hit ?_)))
        refine nrm ?_
        refine wp_seq ?_
        refine wp_seq ?_
        refine rg ?_
        refine pl_x HE30 HH26 (wt0 rfl) (x_move rfl) rfl rfl fun a_67 HE68 => ?_
        refine pl_x HE68 HH26 (wt0 rfl) (x_lss rfl rfl) rfl rfl fun a_69 HE70 => ?_
        refine wpList_nil ?_
        clear a_29 HE30 a_67 HE68
        refine nrm ?_
        refine cnd_d HE70 rfl (fun hc32 => ?_) (fun hc32 => ?_)
        · exfalso; omega
        · refine wp_skip ?_
          refine nrm ?_
          refine wp_seq ?_
          refine rg ?_
          refine pl fun K_71 hK72 => ?_
          refine st_lit (m := 0) (cs := []) (e := 5) HE70 HH26 (run_lit ts_92 HE70 (vs := []) rfl rfl (by simp [Value.cells]) rfl (by decide)) (wt0 rfl) rfl rfl fun q33 a_73 w' HE74 HH75 => hK72 _ _ ?_
          refine pl_x HE74 HH75 (wt0 rfl) (x_assign rfl) rfl rfl fun a_76 HE77 => ?_
          refine wpList_nil ?_
          clear a_69 HE70 HH26 a_73 HE74 hK72 K_71
          refine nrm ?_
          refine wp_seq ?_
          refine wp_seq ?_
          refine rg ?_
          refine pl_x HE77 HH75 (wt0 rfl) (x_move rfl) rfl rfl fun a_78 HE79 => ?_
          refine pl_x HE79 HH75 (wt0 rfl) (x_len Tryd.underlying92 rfl) rfl rfl fun a_80 HE81 => ?_
          refine pl_x HE81 HH75 (wt0 rfl) (x_sub rfl rfl (by exact ⟨by omega, by omega⟩)) rfl rfl fun a_82 HE83 => ?_
          refine pl_x HE83 HH75 (wt0 rfl) (x_assign rfl) rfl rfl fun a_84 HE85 => ?_
          refine wpList_nil ?_
          clear a_76 HE77 a_78 HE79 a_80 HE81 a_82 HE83
          refine nrm ?_
          refine wp_block ?_
          have HH86 := Held.vecFlat (E := eByte) (xs := []) (css := []) HH75 rfl (Nat.zero_le _) (fun i x hx => by simp at hx)
          have HH87 := HH86.sel [1, 0] (by decide) rfl
          have HH88 := HH87.vecSo
          refine lp (fun m a w' => ∃ (k : Nat) (A_6 : Option Addr) (c_6 : Nat) (S_6 : Nat → Prop), m = 0 + k ∧ Env 50 [(6, .slice A_6 (List.length ((l.drop k).reverse)) c_6), (7, .int .i64 ((k : Int) - 1)), (3, .slice A_3 ((List.length l)) c_3)] a ∧ Held Nob w [rVec eByte 5 S_6 A_6 c_6 ((l.drop k).reverse), rSo eByte S_3 A_3 c_3 l] w' ∧ (k ≤ l.length)) (0 + (l.length)) ?_ ?_
          · have E34 : (l.drop (l.length)).reverse = ([] : List Int) := by
              simp
            exact ⟨l.length, (some ⟨q33, 0, none⟩), (List.length (α := Int) []), (fun b => b = q33), rfl, HE85.sub ⟨(by rw [E34]; rfl), (lkI rfl (by first | rfl | omega | (simp [hc21, p24_0, p24_1, hc25, hc32]; done))), rfl, trivial⟩, ((HH88.sel [1, 0] (by decide) rfl).to (by first | rfl | (rw [E34]; done) | (rw [E34]; rfl) | (simp only [E34]; done) | (simp only [E34]; rfl) | (rw [E34]; simp only [List.length_set]; done))), (by first | omega | assumption | (simp; done) | simp_all)⟩
          · rintro m a_89 w' ⟨k, A_6, c_6, S_6, rfl, HE90, HH91, p35_0⟩
            have ol : (l.drop k).reverse.length ≤ l.length := by simp
            refine wp_seq ?_
            refine wp_seq ?_
            refine rg ?_
            refine pl_x HE90 HH91 (wt0 rfl) (x_move rfl) rfl rfl fun a_92 HE93 => ?_
            refine pl_x HE93 HH91 (wt0 rfl) (x_geq rfl rfl) rfl rfl fun a_94 HE95 => ?_
            refine wpList_nil ?_
            clear HH75 HH86 HH87 a_84 HE85 HH88 a_89 HE90 a_92 HE93
            refine nrm ?_
            refine cnd_d HE95 rfl (fun hc36 => ?_) (fun hc36 => ?_)
            · refine wp_skip ?_
              refine nrm ?_
              refine wp_seq ?_
              refine wp_block ?_
              refine rg ?_
              refine pl_x HE95 HH91 (wt0 rfl) (x_move rfl) rfl rfl fun a_96 HE97 => ?_
              refine pl_x HE97 HH91 (wt0 rfl) (x_move rfl) rfl rfl fun a_98 HE99 => ?_
              refine pl_x HE99 HH91 (wt0 rfl) (x_move rfl) rfl rfl fun a_100 HE101 => ?_
              have ke37 : (k - 1) < (List.length l) := by omega
              obtain ⟨be37, fe37, rfl⟩ := el_own HH91 (i := 1) rfl ke37
              refine pl_x HE101 HH91 (wt0 rfl) (x_indexAddr ts_92 rfl rfl rfl (by omega) ke37) rfl rfl fun a_102 HE103 => ?_
              obtain ⟨y38, xy38⟩ : ∃ y_, y_ = l[(k - 1)]'(by first | exact ke37 | (simp only [List.length_set]; exact ke37) | omega | (simp only [List.length_set]; omega) | (simp; omega)) := ⟨_, rfl⟩
              have jy38 : 0 ≤ y38 ∧ y38 ≤ 255 := by rw [xy38]; exact i_ownY HH91 1 rfl _
              refine pl_x HE103 HH91 (wt0 rfl) (x_load1 tv_5 rfl (c_ownY 1 rfl (by first | exact ke37 | (simp only [List.length_set]; exact ke37) | omega | (simp only [List.length_set]; omega) | (simp; omega)) xy38.symm)) rfl rfl fun a_104 HE105 => ?_
              refine pl fun K_106 hK107 => ?_
              refine st_lit (m := 1) (cs := [.int .u8 (y38)]) (e := 5) HE105 HH91 (run_lit ts_92 HE105 (vs := [.int .u8 (y38)]) rfl rfl (by simp [Value.cells]) rfl (by decide)) (wt0 rfl) rfl rfl fun q39 a_108 w' HE109 HH110 => hK107 _ _ ?_
              refine pl fun K_111 hK112 => ?_
              refine st_app1F y38 HE109 HH110 ts_92 [1, 0, 2] (by decide) rfl (fun _ => (oY (by constructor <;> omega))) rfl rfl (by simp [Value.oneCell']) (by unfold maxLen; first | omega | (simp; done) | (simp; omega)) (by first | omega | (simp; done) | (simp; omega)) (wt0 rfl) rfl fun A40 c41 S42 a_113 w' HE114 HH115 => hK112 _ _ ?_
              refine pl_x HE114 HH115 (wt0 rfl) (x_assign rfl) rfl rfl fun a_116 HE117 => ?_
              refine wpList_nil ?_
              clear a_94 HE95 a_96 HE97 a_98 HE99 a_100 HE101 a_102 HE103 a_104 HE105 HH91 K_106 hK107 a_108 HE109 HH110 a_113 HE114 hK112 K_111
              refine blk_n ?_
              refine nrm ?_
              refine rg ?_
              refine pl_x HE117 HH115 (wt0 rfl) (x_move rfl) rfl rfl fun a_118 HE119 => ?_
              refine pl_x HE119 HH115 (wt0 rfl) (x_sub rfl rfl (by exact ⟨by omega, by omega⟩)) rfl rfl fun a_120 HE121 => ?_
              refine pl_x HE121 HH115 (wt0 rfl) (x_assign rfl) rfl rfl fun a_122 HE123 => ?_
              refine wpList_nil ?_
              clear a_116 HE117 a_118 HE119 a_120 HE121
              have E43 : (l.drop ((k - 1))).reverse = ((l.drop k).reverse ++ [y38]) := by
                rw [drop_revI (by omega) (by omega), ← xy38]
              exact nrm ⟨0 + ((k - 1)), (by omega), (k - 1), A40, c41, S42, rfl, HE123.sub ⟨(by rw [E43]; rfl), (lkI rfl (by omega)), rfl, trivial⟩, ((HH115.sel [0, 1] (by decide) rfl).to (by first | rfl | (rw [E43]; done) | (rw [E43]; rfl) | (simp only [E43]; done) | (simp only [E43]; rfl) | (rw [E43]; simp only [List.length_set]; done))), (by first | omega | assumption | (simp; done) | simp_all)⟩
            · refine wp_exit ?_
              refine (thn_exit (thn_exit (blk_hit ?_)))
              refine nrm ?_
              refine wp_seq ?_
              refine rg ?_
              refine pl_x HE95 HH91 (wt0 rfl) (x_move rfl) rfl rfl fun a_124 HE125 => ?_
              refine pl_x HE125 HH91 (wt0 rfl) (x_bytes (xs := (l.drop k).reverse) Tryd.underlying92 Tryd.underlying5 Tryd.underlying9 rfl (fun _ h_ => (h_.vecSl (i := 0) rfl))) rfl rfl fun a_126 HE127 => ?_
              refine pl_x HE127 HH91 (wt0 rfl) (x_assign rfl) rfl rfl fun a_128 HE129 => ?_
              refine wpList_nil ?_
              clear a_94 HE95 a_124 HE125 a_126 HE127
              refine nrm ?_
              refine wp_ret ?_
              refine ret1 HE129 rfl (rv_tmp rfl) ?_
              have hF : (Go.Lib.itoa a0) = (Go.Lib.bytesOf ((l.drop k).reverse)) := by
                first | (rw [show a0 = 0 from by omega]; simp [Go.Lib.itoa, Go.Lib.decDigits]; done) | (rw [itoa_low (by omega), ‹lowD a0.toNat = _›, show u = 0 from by omega, lowD_zero, List.append_nil, show k = 0 from by omega, List.drop_zero])
              exact ⟨by first | (rw [hF] <;> rfl) | rfl | (rw [hF]; simp only [Ending.returned.injEq, Value.slice.injEq, true_and, and_true]; first | omega | (simp; done)) | (rw [hF]; simp; omega), HH91.below⟩

def fracT (f : tFraction) : List UInt8 := Go.Lib.itoa f.1 ++ [47] ++ Go.Lib.itoa f.2

def fracsT (l : List tFraction) : List UInt8 := Go.Lib.join (l.map fracT) [32]

def fracsText (l : List tFraction) : List UInt8 := if validFrac l = true then fracsT l else []

theorem fracs_len {l : List tFraction} (h : ∀ x ∈ l, (1 ≤ x.1 ∧ x.1 ≤ 999999) ∧ 1 ≤ x.2 ∧ x.2 ≤ 999999) (k : Nat) : (Go.Lib.join ((l.take k).map fracT) [32]).length ≤ 50 * l.length := by
  refine join_take_len (fun x hx => ?_) k
  have h1 := h x hx
  have h2 := itoa_len (n := x.1) (by omega)
  have h3 := itoa_len (n := x.2) (by omega)
  simp only [fracT, List.length_append, List.length_cons, List.length_nil]
  omega

set_option maxRecDepth 100000 in
set_option maxHeartbeats 4000000 in
theorem impl_FractionsText (A0 : Option Addr) (c0 : Nat) (a0 : (List tFraction)) (w : World) (h0 : Sl eFraction w (Old w) A0 c0 a0) (hG : Glob w) :
    Calls Tryd.prog 39 #[.slice A0 a0.length c0] w fun e w' => e = .returned (.string (bs (fracsText a0))) ∧ Below w.heap.size w w' := by
  have l0 := h0.len
  have HH1 := Held.start Nob w
  refine enter (n := 30) Tryd.func39 rfl rfl rfl fun a_2 HE3 => ?_
  refine wp_seq ?_
  refine rg ?_
  refine pl_x HE3 HH1 (wt0 rfl) (x_assign rfl) rfl rfl fun a_4 HE5 => ?_
  refine wpList_nil ?_
  clear a_2 HE3
  refine nrm ?_
  refine wp_seq ?_
  refine wp_seq ?_
  refine rg ?_
  refine pl_x HE5 HH1 (wt0 rfl) (x_move rfl) rfl rfl fun a_6 HE7 => ?_
  refine pl fun K_8 hK9 => ?_
  refine st_call HE7 (wt0 rfl) rfl rfl rfl en_38 rfl rfl (impl_ValidFractions _ _ a0 _ (HH1.old h0)) fun e w' hr => ?_
  obtain ⟨rfl, hbr21⟩ := hr
  have HH10 := HH1.on hbr21
  refine ⟨_, rfl, fun a_11 HE12 => hK9 _ _ ?_⟩
  refine pl_x HE12 HH10 (wt0 rfl) (x_not rfl) rfl rfl fun a_13 HE14 => ?_
  refine wpList_nil ?_
  clear a_4 HE5 HH1 a_6 HE7 a_11 HE12 hK9 K_8
  refine nrm ?_
  refine cnd_nb HE14 rfl (fun hc22 => ?_) (fun hc22 => ?_)
  · refine wp_seq ?_
    refine rg ?_
    refine pl_x HE14 HH10 (wt0 rfl) (x_assign rfl) rfl rfl fun a_15 HE16 => ?_
    refine wpList_nil ?_
    clear a_13 HE14
    refine nrm ?_
    refine wp_ret ?_
    refine (thn_ret ?_)
    refine ret1 HE16 rfl (rv_tmp rfl) ?_
    have hF : (fracsText a0) = [] := by
      unfold fracsText; first | (rw [if_neg (by simp [hc22])]; done) | (rw [if_pos ‹_›]; unfold fracsT; rw [List.take_of_length_le (by omega)])
    exact ⟨by first | (rw [hF] <;> rfl) | rfl | (rw [hF]; simp only [Ending.returned.injEq, Value.slice.injEq, true_and, and_true]; first | omega | (simp; done)) | (rw [hF]; simp; omega), HH10.below⟩
  · have hV := validFrac_facts hc22
    refine wp_skip ?_
    refine nrm ?_
    refine wp_seq ?_
    refine rg ?_
    refine pl fun K_17 hK18 => ?_
    refine st_lit (m := 0) (cs := []) (e := 9) HE14 HH10 (run_lit ts_43 HE14 (vs := []) rfl rfl (by simp [Value.cells]) rfl (by decide)) (wt0 rfl) rfl rfl fun q23 a_19 w' HE20 HH21 => hK18 _ _ ?_
    refine pl_x HE20 HH21 (wt0 rfl) (x_assign rfl) rfl rfl fun a_22 HE23 => ?_
    refine wpList_nil ?_
    clear a_13 HE14 HH10 a_19 HE20 hK18 K_17
    refine nrm ?_
    refine wp_seq ?_
    refine wp_seq ?_
    refine rg ?_
    refine pl_x HE23 HH21 (wt0 rfl) (x_move rfl) rfl rfl fun a_24 HE25 => ?_
    refine pl_x HE25 HH21 (wt0 rfl) (x_len Tryd.underlying22 rfl) rfl rfl fun a_26 HE27 => ?_
    refine pl_x HE27 HH21 (wt0 rfl) (x_move rfl) rfl rfl fun a_28 HE29 => ?_
    refine wpList_nil ?_
    clear a_22 HE23 a_24 HE25 a_26 HE27
    refine nrm ?_
    refine wp_block ?_
    have HH30 := Held.vecFlat (E := eTxt) (xs := []) (css := []) HH21 rfl (Nat.zero_le _) (fun i x hx => by simp at hx)
    refine lp (fun m a w' => ∃ (k : Nat) (A_3 : Option Addr) (c_3 : Nat) (S_3 : Nat → Prop), m = a0.length - k ∧ Env 30 [(3, .slice A_3 (List.length ((a0.take k).map fracT)) c_3), (12, .int .i64 (k : Int)), (10, .slice A0 (a0.length) c0), (11, .int .i64 ((a0.length : Int)))] a ∧ Held Nob w [rVec eTxt 9 S_3 A_3 c_3 ((a0.take k).map fracT)] w' ∧ (k ≤ a0.length)) (a0.length - (0)) ?_ ?_
    · have E24 : (a0.take 0).map fracT = ([] : List (List UInt8)) := by
        first | rfl | simp
      exact ⟨0, (some ⟨q23, 0, none⟩), (List.length (α := (List UInt8)) []), (fun b => b = q23), rfl, HE29.sub ⟨(by rw [E24]; rfl), (lkI rfl (by first | rfl | omega | (simp [hc22]; done))), rfl, rfl, trivial⟩, ((HH30.sel [0] (by decide) rfl).to (by first | rfl | (rw [E24]; done) | (rw [E24]; rfl) | (simp only [E24]; done) | (simp only [E24]; rfl) | (rw [E24]; simp only [List.length_set]; done))), (by first | omega | assumption | (simp; done) | simp_all)⟩
    · rintro m a_31 w' ⟨k, A_3, c_3, S_3, rfl, HE32, HH33, p25_0⟩
      have ol : ((a0.take k).map fracT).length ≤ 100 := by rw [List.length_map, List.length_take]; omega
      have oj := fracs_len hV.2 k
      refine wp_seq ?_
      refine rg ?_
      refine pl_x HE32 HH33 (wt0 rfl) (x_lss rfl rfl) rfl rfl fun a_34 HE35 => ?_
      refine wpList_nil ?_
      clear HH21 a_28 HE29 HH30 a_31 HE32
      refine nrm ?_
      refine wp_seq ?_
      refine cnd_d HE35 rfl (fun hc26 => ?_) (fun hc26 => ?_)
      · refine wp_skip ?_
        refine nrm ?_
        refine wp_seq ?_
        refine wp_block ?_
        refine wp_seq ?_
        refine rg ?_
        have ke27 : k < a0.length := by omega
        obtain ⟨be27, fe27, ese27, Ae27, Re27, De27⟩ := el_old h0 ke27
        obtain ⟨e27, xe27⟩ : ∃ x_, x_ = a0[k] := ⟨_, rfl⟩
        rw [← xe27] at Re27
        have Qe27 := Re27
        obtain ⟨rfl, ge27_0, ge27_1⟩ := shape_Fraction Re27
        have je27_0 := ge27_0; unfold I64 at je27_0
        have je27_1 := ge27_1; unfold I64 at je27_1
        have fe27 := hV.2 e27 (by rw [xe27]; exact List.getElem_mem _)
        refine pl_x HE35 HH33 (wt0 rfl) (x_indexAddr ts_22 rfl rfl Ae27 rfl ke27) rfl rfl fun a_36 HE37 => ?_
        refine pl_x HE37 HH33 (wt0 rfl) (x_loadN (cs := [.int .i64 (e27.1), .int .i64 (e27.2)]) tv_47 rfl rfl (c_oldN De27)) rfl rfl fun a_38 HE39 => ?_
        refine pl fun K_40 hK41 => ?_
        refine st_alloc HE39 HH33 tv_47 (wt0 rfl) rfl fun q28 a_42 w' HE43 HH44 => hK41 _ _ ?_
        refine pl fun K_45 hK46 => ?_
        refine st_store (vs := [.int .i64 (e27.1), .int .i64 (e27.2)]) 0 HE43 HH44 tv_47 rfl rfl rfl rfl rfl rfl (by simp [Value.oneCell']) (wt0 rfl) fun w' HH47 => hK46 _ _ ?_
        refine wpList_nil ?_
        clear a_34 HE35 a_36 HE37 a_38 HE39 HH33 K_40 hK41 HH44 hK46 K_45
        refine nrm ?_
        refine dr_start (Held Nob w [rBlk q28 47 [.int .i64 (e27.1), .int .i64 (e27.2)]]) 12 #[false, false, false, false, false, false, false, false, false, false, false, false] hmix rfl rfl HH47 (fun _ h => h.sel [0] (by decide) rfl) fun w' HH48 => ?_
        have HS49 := HH48.sel [0] (by decide) rfl
        refine dr_take (i := 0) (ls' := #[true, false, false, false, false, false, false, false, false, false, false, false]) HE43 HS49 rfl (by kernel_rfl) (by kernel_rfl) (by kernel_rfl) (fun _ _ _ h => h) rfl (wt0 rfl) (x_move rfl) rfl rfl fun a_50 HE51 => ?_
        refine dr_take (i := 1) (ls' := #[true, true, false, false, false, false, false, false, false, false, false, false]) HE51 HS49 rfl (by kernel_rfl) (by kernel_rfl) (by kernel_rfl) (fun _ _ _ h => h) rfl (wt0 rfl) (x_fieldAddr fa_47_0 rfl) rfl rfl fun a_52 HE53 => ?_
        refine dr_take (i := 2) (ls' := #[true, true, true, false, false, false, false, false, false, false, false, false]) HE53 HS49 rfl (by kernel_rfl) (by kernel_rfl) (by kernel_rfl) (fun _ _ _ h => h) rfl (wt0 rfl) (x_load1 tv_2 rfl (c_blk 0 rfl rfl)) rfl rfl fun a_54 HE55 => ?_
        refine dr_take (i := 5) (ls' := #[true, true, true, false, false, true, false, false, false, false, false, false]) HE55 HS49 rfl (by kernel_rfl) (by kernel_rfl) (by kernel_rfl) (fun _ _ _ h => h) rfl (wt0 rfl) (x_fieldAddr fa_47_1 rfl) rfl rfl fun a_56 HE57 => ?_
        refine dr_take (i := 6) (ls' := #[true, true, true, false, false, true, true, false, false, false, false, false]) HE57 HS49 rfl (by kernel_rfl) (by kernel_rfl) (by kernel_rfl) (fun _ _ _ h => h) rfl (wt0 rfl) (x_load1 tv_2 rfl (c_blk 0 rfl rfl)) rfl rfl fun a_58 HE59 => ?_
        refine dr_one (i := 3) (ls' := #[true, true, true, true, false, true, true, false, false, false, false, false]) rfl (by kernel_rfl) rfl fun K_60 hK61 => ?_
        refine st_call HE59 (wt0 rfl) rfl rfl rfl en_54 rfl rfl (impl_Decimal e27.1 _ (HH48.glob hG) (by omega)) fun e w' hr => ?_
        have hAr29_0 := itoa_len (n := e27.1) (by omega)
        obtain ⟨rfl, hbr29⟩ := hr
        have HH62 := HH48.on hbr29
        refine ⟨_, rfl, fun a_63 HE64 => hK61 _ _ (by exact HH62.sel [0] (by decide) rfl) ?_⟩
        have HS65 := HH62.sel [0] (by decide) rfl
        refine dr_take (i := 4) (ls' := #[true, true, true, true, true, true, true, false, false, false, false, false]) HE64 HS65 rfl (by kernel_rfl) (by kernel_rfl) (by kernel_rfl) (fun _ _ _ h => h) rfl (wt0 rfl) (x_sadd rfl rfl (by first | omega | (simp only [List.length_append, List.length_cons, List.length_nil]; omega) | (simp; omega))) rfl rfl fun a_66 HE67 => ?_
        refine dr_one (i := 7) (ls' := #[true, true, true, true, true, true, true, true, false, false, false, false]) rfl (by kernel_rfl) rfl fun K_68 hK69 => ?_
        refine st_call HE67 (wt0 rfl) rfl rfl rfl en_54 rfl rfl (impl_Decimal e27.2 _ (HH62.glob hG) (by omega)) fun e w' hr => ?_
        have hAr30_0 := itoa_len (n := e27.2) (by omega)
        obtain ⟨rfl, hbr30⟩ := hr
        have HH70 := HH62.on hbr30
        refine ⟨_, rfl, fun a_71 HE72 => hK69 _ _ (by exact HH70.sel [0] (by decide) rfl) ?_⟩
        have HS73 := HH70.sel [0] (by decide) rfl
        refine dr_take (i := 8) (ls' := #[true, true, true, true, true, true, true, true, true, false, false, false]) HE72 HS73 rfl (by kernel_rfl) (by kernel_rfl) (by kernel_rfl) (fun _ _ _ h => h) rfl (wt0 rfl) (x_sadd rfl rfl (by first | omega | (simp only [List.length_append, List.length_cons, List.length_nil]; omega) | (simp; omega))) rfl rfl fun a_74 HE75 => ?_
        refine dr_one (i := 9) (ls' := #[true, true, true, true, true, true, true, true, true, true, false, false]) rfl (by kernel_rfl) rfl fun K_76 hK77 => ?_
        refine st_lit (m := 1) (cs := [.string (bs (((Go.Lib.itoa e27.1) ++ [47]) ++ (Go.Lib.itoa e27.2)))]) (e := 9) HE75 HH70 (run_lit ts_43 HE75 (vs := [.string (bs (((Go.Lib.itoa e27.1) ++ [47]) ++ (Go.Lib.itoa e27.2)))]) rfl rfl (by simp [Value.cells]) rfl (by decide)) (wt0 rfl) rfl rfl fun q31 a_78 w' HE79 HH80 => hK77 _ _ (by exact HH80.sel [1] (by decide) rfl) ?_
        have HS81 := HH80.sel [1] (by decide) rfl
        refine dr_one (i := 10) (ls' := #[true, true, true, true, true, true, true, true, true, true, true, false]) rfl (by kernel_rfl) rfl fun K_82 hK83 => ?_
        refine st_app1F (((Go.Lib.itoa e27.1) ++ [47]) ++ (Go.Lib.itoa e27.2)) HE79 HH80 ts_43 [2, 0, 1] (by decide) rfl (fun _ => (oS (by first | omega | (simp only [List.length_append, List.length_cons, List.length_nil]; omega) | (simp; omega)))) rfl rfl (by simp [Value.oneCell']) (by unfold maxLen; first | omega | (simp; done) | (simp; omega)) (by first | omega | (simp; done) | (simp; omega)) (wt0 rfl) rfl fun A32 c33 S34 a_84 w' HE85 HH86 => hK83 _ _ (by exact HH86.sel [1] (by decide) rfl) ?_
        have HS87 := HH86.sel [1] (by decide) rfl
        refine dr_take (i := 11) (ls' := #[true, true, true, true, true, true, true, true, true, true, true, true]) HE85 HS87 rfl (by kernel_rfl) (by kernel_rfl) (by kernel_rfl) (fun _ _ _ h => h) rfl (wt0 rfl) (x_assign rfl) rfl rfl fun a_88 HE89 => ?_
        refine dr_done (by kernel_rfl) ?_
        clear HH47 a_42 HE43 a_50 HE51 a_52 HE53 a_54 HE55 a_56 HE57 HH48 a_58 HE59 HS49 a_63 HE64 K_60 hK61 HH62 a_66 HE67 HS65 a_71 HE72 K_68 hK69 a_74 HE75 HH70 HS73 K_76 hK77 a_78 HE79 HH80 HS81 a_84 HE85 hK83 K_82
        refine blk_n ?_
        refine nrm ?_
        refine rg ?_
        refine pl_x HE89 HH86 (wt0 rfl) (x_add rfl rfl (by exact ⟨by omega, by omega⟩)) rfl rfl fun a_90 HE91 => ?_
        refine pl_x HE91 HH86 (wt0 rfl) (x_move rfl) rfl rfl fun a_92 HE93 => ?_
        refine wpList_nil ?_
        clear a_88 HE89 a_90 HE91
        have E35 : (a0.take (k + 1)).map fracT = ((a0.take k).map fracT ++ [(((Go.Lib.itoa e27.1) ++ [47]) ++ (Go.Lib.itoa e27.2))]) := by
          first | (rw [List.take_succ_eq_append_getElem (by omega), List.map_append, ← xe27]; rfl) | (rw [List.take_succ_eq_append_getElem (by omega), List.map_append, ← xe27]; simp [fracT, hc26])
        exact nrm ⟨a0.length - (k + 1), (by omega), k + 1, A32, c33, S34, rfl, HE93.sub ⟨(by rw [E35]; rfl), (lkI rfl (by first | rfl | omega | (simp [hc22, p25_0, hc26, xe27]; done))), rfl, rfl, trivial⟩, ((HH86.sel [0] (by decide) rfl).to (by first | rfl | (rw [E35]; done) | (rw [E35]; rfl) | (simp only [E35]; done) | (simp only [E35]; rfl) | (rw [E35]; simp only [List.length_set]; done))), (by first | omega | assumption | (simp; done) | simp_all)⟩
      · refine wp_exit ?_
        refine (thn_exit (thn_exit (blk_hit ?_)))
        refine nrm ?_
        refine wp_seq ?_
        refine rg ?_
        refine pl_x HE35 HH33 (wt0 rfl) (x_move rfl) rfl rfl fun a_94 HE95 => ?_
        refine pl fun K_96 hK97 => ?_
        refine st_call HE95 (wt0 rfl) rfl rfl rfl en_59 rfl rfl (Join_Str _ _ ((a0.take k).map fracT) ([32]) _ (HH33.vecSl (i := 0) rfl) (by first | omega | (simp; done)) (by first | omega | (simp [Go.Lib.join, List.intercalate]; omega))) fun e w' hr => ?_
        have hAr36_0 := (by first | omega | (simp [Go.Lib.join, List.intercalate]; omega) : (Go.Lib.join ((a0.take k).map fracT) ([32])).length ≤ 1000000000)
        obtain ⟨rfl, hbr36⟩ := hr
        have HH98 := HH33.on hbr36
        refine ⟨_, rfl, fun a_99 HE100 => hK97 _ _ ?_⟩
        refine pl_x HE100 HH98 (wt0 rfl) (x_assign rfl) rfl rfl fun a_101 HE102 => ?_
        refine wpList_nil ?_
        clear a_34 HE35 HH33 a_94 HE95 a_99 HE100 hK97 K_96
        refine nrm ?_
        refine wp_ret ?_
        refine ret1 HE102 rfl (rv_tmp rfl) ?_
        have hF : (fracsText a0) = (Go.Lib.join ((a0.take k).map fracT) ([32])) := by
          unfold fracsText; first | (rw [if_neg (by simp [hc22, p25_0, hc26])]; done) | (rw [if_pos ‹_›]; unfold fracsT; rw [List.take_of_length_le (by omega)])
        exact ⟨by first | (rw [hF] <;> rfl) | rfl | (rw [hF]; simp only [Ending.returned.injEq, Value.slice.injEq, true_and, and_true]; first | omega | (simp; done)) | (rw [hF]; simp; omega), HH98.below⟩

set_option maxRecDepth 100000 in
set_option maxHeartbeats 4000000 in
theorem spec_l08Fractions (A0 : Option Addr) (c0 : Nat) (a0 : (List tFraction)) (w : World) (h0 : Sl eFraction w (Old w) A0 c0 a0) (s0 : a0.length ≤ 100) (s1 : ∀ x ∈ a0, (1 ≤ x.1 ∧ x.1 ≤ 999999) ∧ 1 ≤ x.2 ∧ x.2 ≤ 999999) :
    Calls Tryd.prog 34 #[.slice A0 a0.length c0] w fun e w' => e = .returned (.string (bs (fracsT a0))) ∧ Below w.heap.size w w' := by
  have l0 := h0.len
  have HH1 := Held.start Nob w
  refine enter (n := 32) Tryd.func34 rfl rfl rfl fun a_2 HE3 => ?_
  refine wp_seq ?_
  refine rg ?_
  refine pl_x HE3 HH1 (wt0 rfl) (x_assign rfl) rfl rfl fun a_4 HE5 => ?_
  refine wpList_nil ?_
  clear a_2 HE3
  refine nrm ?_
  refine wp_seq ?_
  refine rg ?_
  refine pl_x HE5 HH1 (wt0 rfl) (x_assign rfl) rfl rfl fun a_6 HE7 => ?_
  refine wpList_nil ?_
  clear a_4 HE5
  refine nrm ?_
  refine wp_seq ?_
  refine wp_seq ?_
  refine rg ?_
  refine pl_x HE7 HH1 (wt0 rfl) (x_assign rfl) rfl rfl fun a_8 HE9 => ?_
  refine wpList_nil ?_
  clear a_6 HE7
  refine nrm ?_
  refine wp_block ?_
  refine lp (fun m a w' => ∃ (k : Nat), m = a0.length - k ∧ Env 32 [(3, .string (bs (Go.Lib.join ((a0.take k).map fracT) [32]))), (4, .int .i64 (k : Int)), (0, .slice A0 (a0.length) c0)] a ∧ Held Nob w [] w' ∧ (k ≤ a0.length)) (a0.length - (0)) ?_ ?_
  · exact ⟨0, rfl, HE9.sub ⟨(lkS rfl (by first | rfl | (simp []; done))), (lkI rfl (by first | rfl | omega | (simp []; done))), rfl, trivial⟩, (HH1.sel [] (by decide) rfl), (by first | omega | assumption | (simp; done) | simp_all)⟩
  · rintro m a_10 w' ⟨k, rfl, HE11, HH12, p21_0⟩
    have oj := fracs_len s1 k
    refine wp_seq ?_
    refine wp_seq ?_
    refine rg ?_
    refine pl_x HE11 HH12 (wt0 rfl) (x_move rfl) rfl rfl fun a_13 HE14 => ?_
    refine pl_x HE14 HH12 (wt0 rfl) (x_move rfl) rfl rfl fun a_15 HE16 => ?_
    refine pl_x HE16 HH12 (wt0 rfl) (x_len Tryd.underlying22 rfl) rfl rfl fun a_17 HE18 => ?_
    refine pl_x HE18 HH12 (wt0 rfl) (x_lss rfl rfl) rfl rfl fun a_19 HE20 => ?_
    refine wpList_nil ?_
    clear a_8 HE9 HH1 a_10 HE11 a_13 HE14 a_15 HE16 a_17 HE18
    refine nrm ?_
    refine cnd_d HE20 rfl (fun hc22 => ?_) (fun hc22 => ?_)
    · refine wp_skip ?_
      refine nrm ?_
      refine wp_seq ?_
      refine wp_block ?_
      refine wp_seq ?_
      refine wp_seq ?_
      refine rg ?_
      refine pl_x HE20 HH12 (wt0 rfl) (x_move rfl) rfl rfl fun a_21 HE22 => ?_
      refine pl_x HE22 HH12 (wt0 rfl) (x_gtr rfl rfl) rfl rfl fun a_23 HE24 => ?_
      refine wpList_nil ?_
      clear a_19 HE20 a_21 HE22
      refine nrm ?_
      refine cnd_d HE24 rfl (fun hc23 => ?_) (fun hc23 => ?_)
      · refine rg ?_
        refine pl_x HE24 HH12 (wt0 rfl) (x_move rfl) rfl rfl fun a_25 HE26 => ?_
        refine pl_x HE26 HH12 (wt0 rfl) (x_sadd rfl rfl (by first | omega | (simp only [List.length_append, List.length_cons, List.length_nil]; omega) | (simp; omega))) rfl rfl fun a_27 HE28 => ?_
        refine pl_x HE28 HH12 (wt0 rfl) (x_assign rfl) rfl rfl fun a_29 HE30 => ?_
        refine wpList_nil ?_
        clear a_23 HE24 a_25 HE26 a_27 HE28
        refine nrm ?_
        refine dr_start (Held Nob w []) 17 #[false, false, false, false, false, false, false, false, false, false, false, false, false, false, false, false, false] hmix rfl rfl HH12 (fun _ h => h.sel [] (by decide) rfl) fun w' HH31 => ?_
        have HS32 := HH31
        refine dr_take (i := 0) (ls' := #[true, false, false, false, false, false, false, false, false, false, false, false, false, false, false, false, false]) HE30 HS32 rfl (by kernel_rfl) (by kernel_rfl) (by kernel_rfl) (fun _ _ _ h => h) rfl (wt0 rfl) (x_move rfl) rfl rfl fun a_33 HE34 => ?_
        refine dr_take (i := 1) (ls' := #[true, true, false, false, false, false, false, false, false, false, false, false, false, false, false, false, false]) HE34 HS32 rfl (by kernel_rfl) (by kernel_rfl) (by kernel_rfl) (fun _ _ _ h => h) rfl (wt0 rfl) (x_move rfl) rfl rfl fun a_35 HE36 => ?_
        refine dr_take (i := 2) (ls' := #[true, true, true, false, false, false, false, false, false, false, false, false, false, false, false, false, false]) HE36 HS32 rfl (by kernel_rfl) (by kernel_rfl) (by kernel_rfl) (fun _ _ _ h => h) rfl (wt0 rfl) (x_move rfl) rfl rfl fun a_37 HE38 => ?_
        have ke24 : k < a0.length := by omega
        obtain ⟨be24, fe24, ese24, Ae24, Re24, De24⟩ := el_old h0 ke24
        obtain ⟨e24, xe24⟩ : ∃ x_, x_ = a0[k] := ⟨_, rfl⟩
        rw [← xe24] at Re24
        have Qe24 := Re24
        obtain ⟨rfl, ge24_0, ge24_1⟩ := shape_Fraction Re24
        have je24_0 := ge24_0; unfold I64 at je24_0
        have je24_1 := ge24_1; unfold I64 at je24_1
        have fe24 := s1 e24 (by rw [xe24]; exact List.getElem_mem _)
        refine dr_take (i := 3) (ls' := #[true, true, true, true, false, false, false, false, false, false, false, false, false, false, false, false, false]) HE38 HS32 rfl (by kernel_rfl) (by kernel_rfl) (by kernel_rfl) (fun _ _ _ h => h) rfl (wt0 rfl) (x_indexAddr ts_22 rfl rfl Ae24 rfl ke24) rfl rfl fun a_39 HE40 => ?_
        refine dr_take (i := 4) (ls' := #[true, true, true, true, true, false, false, false, false, false, false, false, false, false, false, false, false]) HE40 HS32 rfl (by kernel_rfl) (by kernel_rfl) (by kernel_rfl) (fun _ _ _ h => h) rfl (wt0 rfl) (x_fieldAddr fa_47_0 rfl) rfl rfl fun a_41 HE42 => ?_
        refine dr_take (i := 5) (ls' := #[true, true, true, true, true, true, false, false, false, false, false, false, false, false, false, false, false]) HE42 HS32 rfl (by kernel_rfl) (by kernel_rfl) (by kernel_rfl) (fun _ _ _ h => h) rfl (wt0 rfl) (x_load1 tv_2 rfl (c_old (De24 0 _ rfl))) rfl rfl fun a_43 HE44 => ?_
        refine dr_take (i := 8) (ls' := #[true, true, true, true, true, true, false, false, true, false, false, false, false, false, false, false, false]) HE44 HS32 rfl (by kernel_rfl) (by kernel_rfl) (by kernel_rfl) (fun _ _ _ h => h) rfl (wt0 rfl) (x_move rfl) rfl rfl fun a_45 HE46 => ?_
        refine dr_take (i := 9) (ls' := #[true, true, true, true, true, true, false, false, true, true, false, false, false, false, false, false, false]) HE46 HS32 rfl (by kernel_rfl) (by kernel_rfl) (by kernel_rfl) (fun _ _ _ h => h) rfl (wt0 rfl) (x_move rfl) rfl rfl fun a_47 HE48 => ?_
        refine dr_take (i := 10) (ls' := #[true, true, true, true, true, true, false, false, true, true, true, false, false, false, false, false, false]) HE48 HS32 rfl (by kernel_rfl) (by kernel_rfl) (by kernel_rfl) (fun _ _ _ h => h) rfl (wt0 rfl) (x_indexAddr ts_22 rfl rfl Ae24 rfl ke24) rfl rfl fun a_49 HE50 => ?_
        refine dr_take (i := 11) (ls' := #[true, true, true, true, true, true, false, false, true, true, true, true, false, false, false, false, false]) HE50 HS32 rfl (by kernel_rfl) (by kernel_rfl) (by kernel_rfl) (fun _ _ _ h => h) rfl (wt0 rfl) (x_fieldAddr fa_47_1 rfl) rfl rfl fun a_51 HE52 => ?_
        refine dr_take (i := 12) (ls' := #[true, true, true, true, true, true, false, false, true, true, true, true, true, false, false, false, false]) HE52 HS32 rfl (by kernel_rfl) (by kernel_rfl) (by kernel_rfl) (fun _ _ _ h => h) rfl (wt0 rfl) (x_load1 tv_2 rfl (c_old (De24 1 _ rfl))) rfl rfl fun a_53 HE54 => ?_
        refine dr_one (i := 6) (ls' := #[true, true, true, true, true, true, true, false, true, true, true, true, true, false, false, false, false]) rfl (by kernel_rfl) rfl fun K_55 hK56 => ?_
        refine st_call HE54 (wt0 rfl) rfl rfl rfl en_50 rfl rfl (spec_l01Dec e24.1 _ (by omega)) fun e w' hr => ?_
        have hAr25_0 := itoa_len (n := e24.1) (by omega)
        obtain ⟨rfl, hbr25⟩ := hr
        have HH57 := HH31.on hbr25
        refine ⟨_, rfl, fun a_58 HE59 => hK56 _ _ (by exact HH57.sel [] (by decide) rfl) ?_⟩
        have HS60 := HH57.sel [] (by decide) rfl
        refine dr_take (i := 7) (ls' := #[true, true, true, true, true, true, true, true, true, true, true, true, true, false, false, false, false]) HE59 HS60 rfl (by kernel_rfl) (by kernel_rfl) (by kernel_rfl) (fun _ _ _ h => h) rfl (wt0 rfl) (x_sadd rfl rfl (by first | omega | (simp only [List.length_append, List.length_cons, List.length_nil]; omega) | (simp; omega))) rfl rfl fun a_61 HE62 => ?_
        refine dr_one (i := 13) (ls' := #[true, true, true, true, true, true, true, true, true, true, true, true, true, true, false, false, false]) rfl (by kernel_rfl) rfl fun K_63 hK64 => ?_
        refine st_call HE62 (wt0 rfl) rfl rfl rfl en_50 rfl rfl (spec_l01Dec e24.2 _ (by omega)) fun e w' hr => ?_
        have hAr26_0 := itoa_len (n := e24.2) (by omega)
        obtain ⟨rfl, hbr26⟩ := hr
        have HH65 := HH57.on hbr26
        refine ⟨_, rfl, fun a_66 HE67 => hK64 _ _ (by exact HH65.sel [] (by decide) rfl) ?_⟩
        have HS68 := HH65.sel [] (by decide) rfl
        refine dr_take (i := 14) (ls' := #[true, true, true, true, true, true, true, true, true, true, true, true, true, true, true, false, false]) HE67 HS68 rfl (by kernel_rfl) (by kernel_rfl) (by kernel_rfl) (fun _ _ _ h => h) rfl (wt0 rfl) (x_sadd rfl rfl (by first | omega | (simp only [List.length_append, List.length_cons, List.length_nil]; omega) | (simp; omega))) rfl rfl fun a_69 HE70 => ?_
        refine dr_take (i := 15) (ls' := #[true, true, true, true, true, true, true, true, true, true, true, true, true, true, true, true, false]) HE70 HS68 rfl (by kernel_rfl) (by kernel_rfl) (by kernel_rfl) (fun _ _ _ h => h) rfl (wt0 rfl) (x_sadd rfl rfl (by first | omega | (simp only [List.length_append, List.length_cons, List.length_nil]; omega) | (simp; omega))) rfl rfl fun a_71 HE72 => ?_
        refine dr_take (i := 16) (ls' := #[true, true, true, true, true, true, true, true, true, true, true, true, true, true, true, true, true]) HE72 HS68 rfl (by kernel_rfl) (by kernel_rfl) (by kernel_rfl) (fun _ _ _ h => h) rfl (wt0 rfl) (x_assign rfl) rfl rfl fun a_73 HE74 => ?_
        refine dr_done (by kernel_rfl) ?_
        clear HH12 a_29 HE30 a_33 HE34 a_35 HE36 a_37 HE38 a_39 HE40 a_41 HE42 a_43 HE44 a_45 HE46 a_47 HE48 a_49 HE50 a_51 HE52 HH31 a_53 HE54 HS32 a_58 HE59 K_55 hK56 HH57 a_61 HE62 HS60 a_66 HE67 a_69 HE70 a_71 HE72 hK64 K_63
        refine blk_n ?_
        refine nrm ?_
        refine rg ?_
        refine pl_x HE74 HH65 (wt0 rfl) (x_move rfl) rfl rfl fun a_75 HE76 => ?_
        refine pl_x HE76 HH65 (wt0 rfl) (x_add rfl rfl (by exact ⟨by omega, by omega⟩)) rfl rfl fun a_77 HE78 => ?_
        refine pl_x HE78 HH65 (wt0 rfl) (x_assign rfl) rfl rfl fun a_79 HE80 => ?_
        refine wpList_nil ?_
        clear a_73 HE74 a_75 HE76 a_77 HE78
        exact nrm ⟨a0.length - (k + 1), (by omega), k + 1, rfl, HE80.sub ⟨(lkS rfl (by first | (rw [join_step0 _ _ (by omega) (by omega), ← xe24]; done) | (rw [join_step1 _ _ (by omega) (by omega), ← xe24]; done) | (rw [join_step0 _ _ (by omega) (by omega), ← xe24]; rfl) | (rw [join_step1 _ _ (by omega) (by omega), ← xe24]; rfl) | (rw [join_step0 _ _ (by omega) (by omega), ← xe24]; simp [fracT, hc23]; done) | (rw [join_step1 _ _ (by omega) (by omega), ← xe24]; simp [fracT, hc23]; done))), (lkI rfl (by first | rfl | omega | (simp [p21_0, hc22, hc23, xe24]; done))), rfl, trivial⟩, (HH65.sel [] (by decide) rfl), (by first | omega | assumption | (simp; done) | simp_all)⟩
      · refine wp_skip ?_
        refine nrm ?_
        refine dr_start (Held Nob w []) 17 #[false, false, false, false, false, false, false, false, false, false, false, false, false, false, false, false, false] hmix rfl rfl HH12 (fun _ h => h.sel [] (by decide) rfl) fun w' HH81 => ?_
        have HS82 := HH81
        refine dr_take (i := 0) (ls' := #[true, false, false, false, false, false, false, false, false, false, false, false, false, false, false, false, false]) HE24 HS82 rfl (by kernel_rfl) (by kernel_rfl) (by kernel_rfl) (fun _ _ _ h => h) rfl (wt0 rfl) (x_move rfl) rfl rfl fun a_83 HE84 => ?_
        refine dr_take (i := 1) (ls' := #[true, true, false, false, false, false, false, false, false, false, false, false, false, false, false, false, false]) HE84 HS82 rfl (by kernel_rfl) (by kernel_rfl) (by kernel_rfl) (fun _ _ _ h => h) rfl (wt0 rfl) (x_move rfl) rfl rfl fun a_85 HE86 => ?_
        refine dr_take (i := 2) (ls' := #[true, true, true, false, false, false, false, false, false, false, false, false, false, false, false, false, false]) HE86 HS82 rfl (by kernel_rfl) (by kernel_rfl) (by kernel_rfl) (fun _ _ _ h => h) rfl (wt0 rfl) (x_move rfl) rfl rfl fun a_87 HE88 => ?_
        have ke27 : k < a0.length := by omega
        obtain ⟨be27, fe27, ese27, Ae27, Re27, De27⟩ := el_old h0 ke27
        obtain ⟨e27, xe27⟩ : ∃ x_, x_ = a0[k] := ⟨_, rfl⟩
        rw [← xe27] at Re27
        have Qe27 := Re27
        obtain ⟨rfl, ge27_0, ge27_1⟩ := shape_Fraction Re27
        have je27_0 := ge27_0; unfold I64 at je27_0
        have je27_1 := ge27_1; unfold I64 at je27_1
        have fe27 := s1 e27 (by rw [xe27]; exact List.getElem_mem _)
        refine dr_take (i := 3) (ls' := #[true, true, true, true, false, false, false, false, false, false, false, false, false, false, false, false, false]) HE88 HS82 rfl (by kernel_rfl) (by kernel_rfl) (by kernel_rfl) (fun _ _ _ h => h) rfl (wt0 rfl) (x_indexAddr ts_22 rfl rfl Ae27 rfl ke27) rfl rfl fun a_89 HE90 => ?_
        refine dr_take (i := 4) (ls' := #[true, true, true, true, true, false, false, false, false, false, false, false, false, false, false, false, false]) HE90 HS82 rfl (by kernel_rfl) (by kernel_rfl) (by kernel_rfl) (fun _ _ _ h => h) rfl (wt0 rfl) (x_fieldAddr fa_47_0 rfl) rfl rfl fun a_91 HE92 => ?_
        refine dr_take (i := 5) (ls' := #[true, true, true, true, true, true, false, false, false, false, false, false, false, false, false, false, false]) HE92 HS82 rfl (by kernel_rfl) (by kernel_rfl) (by kernel_rfl) (fun _ _ _ h => h) rfl (wt0 rfl) (x_load1 tv_2 rfl (c_old (De27 0 _ rfl))) rfl rfl fun a_93 HE94 => ?_
        refine dr_take (i := 8) (ls' := #[true, true, true, true, true, true, false, false, true, false, false, false, false, false, false, false, false]) HE94 HS82 rfl (by kernel_rfl) (by kernel_rfl) (by kernel_rfl) (fun _ _ _ h => h) rfl (wt0 rfl) (x_move rfl) rfl rfl fun a_95 HE96 => ?_
        refine dr_take (i := 9) (ls' := #[true, true, true, true, true, true, false, false, true, true, false, false, false, false, false, false, false]) HE96 HS82 rfl (by kernel_rfl) (by kernel_rfl) (by kernel_rfl) (fun _ _ _ h => h) rfl (wt0 rfl) (x_move rfl) rfl rfl fun a_97 HE98 => ?_
        refine dr_take (i := 10) (ls' := #[true, true, true, true, true, true, false, false, true, true, true, false, false, false, false, false, false]) HE98 HS82 rfl (by kernel_rfl) (by kernel_rfl) (by kernel_rfl) (fun _ _ _ h => h) rfl (wt0 rfl) (x_indexAddr ts_22 rfl rfl Ae27 rfl ke27) rfl rfl fun a_99 HE100 => ?_
        refine dr_take (i := 11) (ls' := #[true, true, true, true, true, true, false, false, true, true, true, true, false, false, false, false, false]) HE100 HS82 rfl (by kernel_rfl) (by kernel_rfl) (by kernel_rfl) (fun _ _ _ h => h) rfl (wt0 rfl) (x_fieldAddr fa_47_1 rfl) rfl rfl fun a_101 HE102 => ?_
        refine dr_take (i := 12) (ls' := #[true, true, true, true, true, true, false, false, true, true, true, true, true, false, false, false, false]) HE102 HS82 rfl (by kernel_rfl) (by kernel_rfl) (by kernel_rfl) (fun _ _ _ h => h) rfl (wt0 rfl) (x_load1 tv_2 rfl (c_old (De27 1 _ rfl))) rfl rfl fun a_103 HE104 => ?_
        refine dr_one (i := 6) (ls' := #[true, true, true, true, true, true, true, false, true, true, true, true, true, false, false, false, false]) rfl (by kernel_rfl) rfl fun K_105 hK106 => ?_
        refine st_call HE104 (wt0 rfl) rfl rfl rfl en_50 rfl rfl (spec_l01Dec e27.1 _ (by omega)) fun e w' hr => ?_
        have hAr28_0 := itoa_len (n := e27.1) (by omega)
        obtain ⟨rfl, hbr28⟩ := hr
        have HH107 := HH81.on hbr28
        refine ⟨_, rfl, fun a_108 HE109 => hK106 _ _ (by exact HH107.sel [] (by decide) rfl) ?_⟩
        have HS110 := HH107.sel [] (by decide) rfl
        refine dr_take (i := 7) (ls' := #[true, true, true, true, true, true, true, true, true, true, true, true, true, false, false, false, false]) HE109 HS110 rfl (by kernel_rfl) (by kernel_rfl) (by kernel_rfl) (fun _ _ _ h => h) rfl (wt0 rfl) (x_sadd rfl rfl (by first | omega | (simp only [List.length_append, List.length_cons, List.length_nil]; omega) | (simp; omega))) rfl rfl fun a_111 HE112 => ?_
        refine dr_one (i := 13) (ls' := #[true, true, true, true, true, true, true, true, true, true, true, true, true, true, false, false, false]) rfl (by kernel_rfl) rfl fun K_113 hK114 => ?_
        refine st_call HE112 (wt0 rfl) rfl rfl rfl en_50 rfl rfl (spec_l01Dec e27.2 _ (by omega)) fun e w' hr => ?_
        have hAr29_0 := itoa_len (n := e27.2) (by omega)
        obtain ⟨rfl, hbr29⟩ := hr
        have HH115 := HH107.on hbr29
        refine ⟨_, rfl, fun a_116 HE117 => hK114 _ _ (by exact HH115.sel [] (by decide) rfl) ?_⟩
        have HS118 := HH115.sel [] (by decide) rfl
        refine dr_take (i := 14) (ls' := #[true, true, true, true, true, true, true, true, true, true, true, true, true, true, true, false, false]) HE117 HS118 rfl (by kernel_rfl) (by kernel_rfl) (by kernel_rfl) (fun _ _ _ h => h) rfl (wt0 rfl) (x_sadd rfl rfl (by first | omega | (simp only [List.length_append, List.length_cons, List.length_nil]; omega) | (simp; omega))) rfl rfl fun a_119 HE120 => ?_
        refine dr_take (i := 15) (ls' := #[true, true, true, true, true, true, true, true, true, true, true, true, true, true, true, true, false]) HE120 HS118 rfl (by kernel_rfl) (by kernel_rfl) (by kernel_rfl) (fun _ _ _ h => h) rfl (wt0 rfl) (x_sadd rfl rfl (by first | omega | (simp only [List.length_append, List.length_cons, List.length_nil]; omega) | (simp; omega))) rfl rfl fun a_121 HE122 => ?_
        refine dr_take (i := 16) (ls' := #[true, true, true, true, true, true, true, true, true, true, true, true, true, true, true, true, true]) HE122 HS118 rfl (by kernel_rfl) (by kernel_rfl) (by kernel_rfl) (fun _ _ _ h => h) rfl (wt0 rfl) (x_assign rfl) rfl rfl fun a_123 HE124 => ?_
        refine dr_done (by kernel_rfl) ?_
        clear HH12 a_23 HE24 a_83 HE84 a_85 HE86 a_87 HE88 a_89 HE90 a_91 HE92 a_93 HE94 a_95 HE96 a_97 HE98 a_99 HE100 a_101 HE102 HH81 a_103 HE104 HS82 a_108 HE109 K_105 hK106 HH107 a_111 HE112 HS110 a_116 HE117 a_119 HE120 a_121 HE122 hK114 K_113
        refine blk_n ?_
        refine nrm ?_
        refine rg ?_
        refine pl_x HE124 HH115 (wt0 rfl) (x_move rfl) rfl rfl fun a_125 HE126 => ?_
        refine pl_x HE126 HH115 (wt0 rfl) (x_add rfl rfl (by exact ⟨by omega, by omega⟩)) rfl rfl fun a_127 HE128 => ?_
        refine pl_x HE128 HH115 (wt0 rfl) (x_assign rfl) rfl rfl fun a_129 HE130 => ?_
        refine wpList_nil ?_
        clear a_123 HE124 a_125 HE126 a_127 HE128
        exact nrm ⟨a0.length - (k + 1), (by omega), k + 1, rfl, HE130.sub ⟨(lkS rfl (by first | (rw [join_step0 _ _ (by omega) (by omega), ← xe27]; done) | (rw [join_step1 _ _ (by omega) (by omega), ← xe27]; done) | (rw [join_step0 _ _ (by omega) (by omega), ← xe27]; rfl) | (rw [join_step1 _ _ (by omega) (by omega), ← xe27]; rfl) | (rw [join_step0 _ _ (by omega) (by omega), ← xe27]; simp [fracT, hc23]; done) | (rw [join_step1 _ _ (by omega) (by omega), ← xe27]; simp [fracT, hc23]; done))), (lkI rfl (by first | rfl | omega | (simp [p21_0, hc22, hc23, xe27]; done))), rfl, trivial⟩, (HH115.sel [] (by decide) rfl), (by first | omega | assumption | (simp; done) | simp_all)⟩
    · refine wp_exit ?_
      refine (thn_exit (thn_exit (blk_hit ?_)))
      refine nrm ?_
      refine wp_seq ?_
      refine rg ?_
      refine pl_x HE20 HH12 (wt0 rfl) (x_move rfl) rfl rfl fun a_131 HE132 => ?_
      refine pl_x HE132 HH12 (wt0 rfl) (x_assign rfl) rfl rfl fun a_133 HE134 => ?_
      refine wpList_nil ?_
      clear a_19 HE20 a_131 HE132
      refine nrm ?_
      refine wp_ret ?_
      refine ret1 HE134 rfl (rv_tmp rfl) ?_
      have hF : (fracsT a0) = (Go.Lib.join ((a0.take k).map fracT) [32]) := by
        unfold fracsT; rw [List.take_of_length_le (by omega)]
      exact ⟨by first | (rw [hF] <;> rfl) | rfl | (rw [hF]; simp only [Ending.returned.injEq, Value.slice.injEq, true_and, and_true]; first | omega | (simp; done)) | (rw [hF]; simp; omega), HH12.below⟩

open Go.Lib in
def isDg (c : UInt8) : Bool := decide (48 ≤ c.toNat) && decide (c.toNat ≤ 57)

open Go.Lib in
def dgv (c : UInt8) : Nat := c.toNat - 48

open Go.Lib in
/-- What digits spell, on from acc. -/
def valD (acc : Nat) (l : List UInt8) : Nat := l.foldl (fun a c => a * 10 + dgv c) acc

open Go.Lib in
theorem valD_cons (acc : Nat) (c : UInt8) (r : List UInt8) : valD acc (c :: r) = valD (acc * 10 + dgv c) r := by unfold valD; rw [List.foldl_cons]

open Go.Lib in
theorem valD_nil (acc : Nat) : valD acc [] = acc := by unfold valD; rw [List.foldl_nil]

open Go.Lib in
theorem valD_snoc (l : List UInt8) (c : UInt8) (acc : Nat) : valD acc (l ++ [c]) = valD acc l * 10 + dgv c := by
  unfold valD; rw [List.foldl_append, List.foldl_cons, List.foldl_nil]

open Go.Lib in
theorem dgv_def (c : UInt8) : dgv c = c.toNat - 48 := rfl

open Go.Lib in
theorem valD_one (c : UInt8) : valD 0 [c] = c.toNat - 48 := by rw [valD_cons, valD_nil, dgv_def]; omega

open Go.Lib in
theorem valD_ge (l : List UInt8) : ∀ acc : Nat, acc ≤ valD acc l := by
  induction l with
  | nil => intro acc; rw [valD_nil]; exact Nat.le_refl _
  | cons c l ih => intro acc; rw [valD_cons]; exact Nat.le_trans (by omega) (ih _)

open Go.Lib in
theorem val_arith {a d p v : Nat} (hd : d ≤ 57) (h1 : v < (a * 10 + (d - 48) + 1) * p) : v < (a + 1) * (p * 10) := by
  refine Nat.lt_of_lt_of_le h1 ?_
  rw [Nat.mul_comm p 10, ← Nat.mul_assoc]
  exact Nat.mul_le_mul_right _ (by omega)

open Go.Lib in
theorem isDg_iff {c : UInt8} : isDg c = true ↔ 48 ≤ c.toNat ∧ c.toNat ≤ 57 := by unfold isDg; simp

open Go.Lib in
theorem valD_lt (l : List UInt8) : ∀ acc : Nat, l.all isDg = true → valD acc l < (acc + 1) * 10 ^ l.length := by
  induction l with
  | nil => intro acc _; rw [List.length_nil, Nat.pow_zero, Nat.mul_one, valD_nil]; exact Nat.lt_succ_self _
  | cons c l ih =>
    intro acc h
    rw [List.all_cons, Bool.and_eq_true] at h
    rw [List.length_cons, Nat.pow_succ, valD_cons]
    exact val_arith (isDg_iff.1 h.1).2 (ih _ h.2)

open Go.Lib in
theorem dec_val : ∀ (n : Nat) (l : List UInt8), l.length = n → l ≠ [] → l.all isDg = true → (l.head? = some 48 → l.length = 1) → decDigits (valD 0 l) = l
  | 0, l, hl, hn, _, _ => absurd (List.eq_nil_of_length_eq_zero hl) hn
  | n + 1, l, hl, hn, hd, h0 => by
    obtain ⟨q, c, rfl⟩ : ∃ q c, l = q ++ [c] := ⟨l.dropLast, l.getLast hn, (List.dropLast_concat_getLast hn).symm⟩
    rw [List.all_append, Bool.and_eq_true] at hd
    have hc : 48 ≤ c.toNat ∧ c.toNat ≤ 57 := by have := hd.2; rw [List.all_cons, List.all_nil, Bool.and_true] at this; exact isDg_iff.1 this
    have hcc : UInt8.ofNat (48 + (c.toNat - 48)) = c := by rw [show 48 + (c.toNat - 48) = c.toNat from by omega]; simp
    rw [valD_snoc, dgv_def]
    by_cases hq : q = []
    · subst hq
      have e0 : valD 0 ([] : List UInt8) * 10 + (c.toNat - 48) = c.toNat - 48 := by rw [valD_nil]; omega
      rw [e0, decDigits, dif_pos (by omega), hcc, List.nil_append]
    · have hq1 : q.head? ≠ some 48 := by
        intro e
        have := h0 (by cases q with | nil => exact absurd rfl hq | cons _ _ => simpa using e)
        rw [List.length_append] at this
        have : q.length = 0 := by simp at this; exact absurd this hq
        exact hq (List.eq_nil_of_length_eq_zero this)
      have ih := dec_val n q (by rw [List.length_append] at hl; simp at hl; omega) hq hd.1 (fun e => absurd e hq1)
      have hpos : 1 ≤ valD 0 q := by
        cases q with
        | nil => exact absurd rfl hq
        | cons d q =>
          have hd1 := hd.1
          rw [List.all_cons, Bool.and_eq_true] at hd1
          have hdd : 48 ≤ d.toNat ∧ d.toNat ≤ 57 := isDg_iff.1 hd1.1
          have hne : d ≠ 48 := fun e => hq1 (by rw [e]; rfl)
          have hne2 : d.toNat ≠ 48 := fun e => hne (UInt8.toNat_inj.1 e)
          rw [valD_cons, dgv_def]
          exact Nat.le_trans (by omega) (valD_ge q _)
      rw [decDigits, dif_neg (by omega), show (valD 0 q * 10 + (c.toNat - 48)) / 10 = valD 0 q from by omega, show (valD 0 q * 10 + (c.toNat - 48)) % 10 = c.toNat - 48 from by omega, ih, hcc]

open Go.Lib in
theorem dec_dig (n : Nat) : (decDigits n).all isDg = true ∧ decDigits n ≠ [] ∧ valD 0 (decDigits n) = n ∧ ((decDigits n).head? = some 48 → n = 0) := by
  induction n using Nat.strongRecOn with
  | _ n ih =>
    by_cases h : n < 10
    · rw [decDigits, dif_pos h]
      have e : (UInt8.ofNat (48 + n)).toNat = 48 + n := by simp; omega
      refine ⟨by rw [List.all_cons, List.all_nil, Bool.and_true]; exact isDg_iff.2 (by rw [e]; omega), by simp, by rw [valD_one, e]; omega, ?_⟩
      intro h2
      simp only [List.head?_cons, Option.some.injEq] at h2
      have := congrArg UInt8.toNat h2
      rw [e] at this
      have h3 : (48 : UInt8).toNat = 48 := rfl
      omega
    · obtain ⟨h1, h2, h3, h4⟩ := ih (n / 10) (by omega)
      rw [decDigits, dif_neg h]
      have e : (UInt8.ofNat (48 + n % 10)).toNat = 48 + n % 10 := by simp; omega
      refine ⟨by rw [List.all_append, h1, List.all_cons, List.all_nil, Bool.and_true, Bool.true_and]; exact isDg_iff.2 (by rw [e]; omega), by simp, by rw [valD_snoc, h3, dgv_def, e]; omega, ?_⟩
      intro h5
      have h6 : (decDigits (n / 10)).head? = some 48 := by
        cases hq : decDigits (n / 10) with
        | nil => exact absurd hq h2
        | cons a b => rw [hq] at h5; exact h5
      have := h4 h6
      omega

open Go.Lib in
theorem parse_dig (M : Nat) (l : List UInt8) : ∀ acc : Nat, l.all isDg = true → valD acc l ≤ M → valD acc l < 18446744073709551615 → parseUintM M acc l = .ok (valD acc l) := by
  induction l with
  | nil => intro acc _ _ _; rw [valD_nil, parseUintM]
  | cons c l ih =>
    intro acc h h1 h2
    rw [List.all_cons, Bool.and_eq_true] at h
    have hc := isDg_iff.1 h.1
    have hg := valD_ge l (acc * 10 + dgv c)
    rw [valD_cons] at h1 h2 ⊢
    have hd := dgv_def c
    rw [parseUintM, if_pos hc, ← hd, if_neg (by omega), if_neg (by omega)]
    exact ih _ h.2 h1 h2

open Go.Lib in
/-- The part of a numeral behind its sign. -/
def unsg (s : List UInt8) : List UInt8 := if s.head? = some 45 then s.tail else s

open Go.Lib in
/-- A numeral of at most 18 digits, in its one form. -/
def okNum (s : List UInt8) : Bool := decide (unsg s ≠ []) && decide ((unsg s).length ≤ 18) && (unsg s).all isDg && !(decide ((unsg s).head? = some 48) && decide (1 < s.length))

open Go.Lib in
def numOf (s : List UInt8) : Int := if s.head? = some 45 then -(valD 0 (unsg s) : Int) else (valD 0 (unsg s) : Int)

open Go.Lib in
def numC (s : List UInt8) : Int × Bool := if okNum s = true then (numOf s, true) else (0, false)

open Go.Lib in
/-- The program's way. -/
def numR (s : List UInt8) : Int × Bool :=
  match parseIntB 64 s with
  | .ok v => if itoa v = s ∧ (unsg s).length ≤ 18 then (v, true) else (0, false)
  | _ => (0, false)

open Go.Lib in
theorem okNum_iff (s : List UInt8) : okNum s = true ↔ unsg s ≠ [] ∧ (unsg s).length ≤ 18 ∧ (unsg s).all isDg = true ∧ ¬ ((unsg s).head? = some 48 ∧ 1 < s.length) := by
  unfold okNum
  simp only [Bool.and_eq_true, decide_eq_true_eq, Bool.not_eq_true', Bool.and_eq_false_iff, decide_eq_false_iff_not]
  constructor
  · rintro ⟨⟨⟨h1, h2⟩, h3⟩, h4⟩; exact ⟨h1, h2, h3, fun ⟨a, b⟩ => h4.elim (fun h => h a) (fun h => h b)⟩
  · rintro ⟨h1, h2, h3, h4⟩
    refine ⟨⟨⟨h1, h2⟩, h3⟩, ?_⟩
    by_cases a : (unsg s).head? = some 48
    · exact .inr fun b => h4 ⟨a, b⟩
    · exact .inl a

open Go.Lib in
theorem dig_head {l : List UInt8} (h : l.all isDg = true) : l.head? ≠ some 45 := by
  cases l with
  | nil => simp
  | cons c l =>
    rw [List.all_cons, Bool.and_eq_true] at h
    intro e
    simp only [List.head?_cons, Option.some.injEq] at e
    have := h.1
    rw [e] at this
    exact absurd this (by decide)

open Go.Lib in
/-- The one form of a number has it again. -/
theorem okNum_itoa {v : Int} (h : -1000000000000000000 < v ∧ v < 1000000000000000000) : okNum (itoa v) = true ∧ numOf (itoa v) = v := by
  have key : ∀ n : Nat, n < 1000000000000000000 → (decDigits n).length ≤ 18 := by
    intro n hn
    rw [decDigits_length]
    exact nDigits_le 17 n (by simpa using hn)
  by_cases hv : v < 0
  · obtain ⟨h1, h2, h3, h4⟩ := dec_dig v.natAbs
    have e : itoa v = 45 :: decDigits v.natAbs := by unfold itoa; rw [if_pos hv]
    rw [e]
    have eu : unsg (45 :: decDigits v.natAbs) = decDigits v.natAbs := rfl
    refine ⟨(okNum_iff _).2 ?_, ?_⟩
    · rw [eu]
      exact ⟨h2, key _ (by omega), h1, fun hq => by have := h4 hq.1; omega⟩
    · unfold numOf
      rw [eu, List.head?_cons, if_pos rfl, h3]; omega
  · obtain ⟨h1, h2, h3, h4⟩ := dec_dig v.toNat
    have e : itoa v = decDigits v.toNat := by unfold itoa; rw [if_neg hv]
    rw [e]
    have eu : unsg (decDigits v.toNat) = decDigits v.toNat := by unfold unsg; rw [if_neg (dig_head h1)]
    refine ⟨(okNum_iff _).2 ?_, ?_⟩
    · rw [eu]
      refine ⟨h2, key _ (by omega), h1, fun hq => ?_⟩
      have h5 := h4 hq.1
      rw [h5] at hq
      rw [decDigits, dif_pos (by omega)] at hq
      exact absurd hq.2 (by simp)
    · unfold numOf
      rw [eu, if_neg (dig_head h1), h3]; omega

open Go.Lib in
theorem itoa_num {s : List UInt8} (h : okNum s = true) : itoa (numOf s) = s ∧ -1000000000000000000 < numOf s ∧ numOf s < 1000000000000000000 := by
  obtain ⟨h1, h2, h3, h4⟩ := (okNum_iff s).1 h
  have hb := valD_lt (unsg s) 0 h3
  have hb2 : valD 0 (unsg s) < 1000000000000000000 := by
    refine Nat.lt_of_lt_of_le hb ?_
    have := Nat.pow_le_pow_right (n := 10) (by omega) h2
    omega
  by_cases hs : s.head? = some 45
  · have eu : unsg s = s.tail := by unfold unsg; rw [if_pos hs]
    have es : s = 45 :: s.tail := by cases s with | nil => cases hs | cons c r => simp at hs; rw [hs]; rfl
    have hl : 1 < s.length := by rw [es]; rw [eu] at h1; cases hq : s.tail with | nil => exact absurd hq h1 | cons _ _ => simp
    have hne : ¬ (unsg s).head? = some 48 := fun e => h4 ⟨e, hl⟩
    have hd := dec_val _ (unsg s) rfl h1 h3 (fun e => absurd e hne)
    have hpos : valD 0 (unsg s) ≠ 0 := by
      intro e0
      rw [e0] at hd
      have : decDigits 0 = [48] := by rw [decDigits, dif_pos (by omega)]; rfl
      rw [this] at hd
      exact hne (by rw [← hd]; rfl)
    unfold numOf
    rw [if_pos hs]
    refine ⟨?_, by omega, by omega⟩
    unfold itoa
    rw [if_pos (by omega), show (-(valD 0 (unsg s) : Int)).natAbs = valD 0 (unsg s) from by omega, hd, eu]
    exact es.symm
  · have eu : unsg s = s := by unfold unsg; rw [if_neg hs]
    have hd := dec_val _ (unsg s) rfl h1 h3 (fun e => by
      rw [eu] at e ⊢
      rcases Nat.lt_or_ge 1 s.length with hl | hl
      · exact absurd ⟨by rw [eu]; exact e, hl⟩ h4
      · have : s.length ≠ 0 := fun e0 => h1 (by rw [eu]; exact List.eq_nil_of_length_eq_zero e0)
        omega)
    unfold numOf
    rw [if_neg hs]
    refine ⟨?_, by omega, by omega⟩
    unfold itoa
    rw [if_neg (by omega), Int.toNat_natCast, hd, eu]

open Go.Lib in
theorem parse_num {s : List UInt8} (h : okNum s = true) : parseIntB 64 s = .ok (numOf s) := by
  obtain ⟨h1, h2, h3, h4⟩ := (okNum_iff s).1 h
  have hb := valD_lt (unsg s) 0 h3
  have hb2 : valD 0 (unsg s) < 1000000000000000000 := by
    refine Nat.lt_of_lt_of_le hb ?_
    have := Nat.pow_le_pow_right (n := 10) (by omega) h2
    omega
  have hp : parseUintB 64 (unsg s) = .ok (valD 0 (unsg s)) := by
    unfold parseUintB
    rw [if_neg h1]
    exact parse_dig _ _ 0 h3 (by omega) (by omega)
  by_cases hs : s.head? = some 45
  · have eu : unsg s = s.tail := by unfold unsg; rw [if_pos hs]
    have es : s = 45 :: s.tail := by cases s with | nil => cases hs | cons c r => simp at hs; rw [hs]; rfl
    rw [eu] at hp hb2
    unfold numOf
    rw [if_pos hs, eu]
    conv => lhs; rw [es]
    rw [parseIntB_minus, hp, signedC, if_neg (by omega)]
  · have eu : unsg s = s := by unfold unsg; rw [if_neg hs]
    rw [eu] at hp hb2 h1 h3
    unfold numOf
    rw [if_neg hs, eu]
    cases s with
    | nil => exact absurd rfl h1
    | cons c r =>
      rw [List.all_cons, Bool.and_eq_true] at h3
      have hc : 48 ≤ c.toNat ∧ c.toNat ≤ 57 := isDg_iff.1 h3.1
      rw [parseIntB_plain 64 c r (by omega) (by omega), hp, signlessC, if_neg (by omega)]

open Go.Lib in
theorem numR_eq (s : List UInt8) : numR s = numC s := by
  unfold numC
  by_cases h : okNum s = true
  · rw [if_pos h]
    unfold numR
    rw [parse_num h]
    exact if_pos ⟨(itoa_num h).1, ((okNum_iff s).1 h).2.1⟩
  · rw [if_neg h]
    unfold numR
    split
    · rename_i v hv
      rw [if_neg]
      rintro ⟨h1, h2⟩
      have hb := parseIntB_bounds hv
      apply h
      have hsm : -1000000000000000000 < v ∧ v < 1000000000000000000 := by
        have hk : ∀ n : Nat, (decDigits n).length ≤ 18 → n < 1000000000000000000 := by
          intro n hn
          rw [decDigits_length] at hn
          have := lt_pow_nDigits n
          have h5 := Nat.pow_le_pow_right (n := 10) (by omega) hn
          omega
        by_cases hv0 : v < 0
        · have e : itoa v = 45 :: decDigits v.natAbs := by unfold itoa; rw [if_pos hv0]
          have : unsg s = decDigits v.natAbs := by rw [← h1, e]; rfl
          rw [this] at h2
          have := hk _ h2
          omega
        · have e : itoa v = decDigits v.toNat := by unfold itoa; rw [if_neg hv0]
          have : unsg s = decDigits v.toNat := by rw [← h1, e]; unfold unsg; rw [if_neg (dig_head (dec_dig _).1)]
          rw [this] at h2
          have := hk _ h2
          omega
      rw [← h1]
      exact (okNum_itoa hsm).1
    · rfl

open Go.Lib in
/-- A text divided at each byte c. -/
def splitR (c : UInt8) : List UInt8 → List (List UInt8)
  | [] => [[]]
  | b :: l => if b = c then [] :: splitR c l else match splitR c l with
    | p :: r => (b :: p) :: r
    | [] => [[b]]

open Go.Lib in
theorem splitR_nil (c : UInt8) : splitR c [] = [[]] := by rw [splitR]

open Go.Lib in
theorem splitR_eq (c : UInt8) (l : List UInt8) : splitR c (c :: l) = [] :: splitR c l := by rw [splitR, if_pos rfl]

open Go.Lib in
theorem splitR_ne {b c : UInt8} (h : ¬ b = c) {l p : List UInt8} {r : List (List UInt8)} (e : splitR c l = p :: r) : splitR c (b :: l) = (b :: p) :: r := by rw [splitR, if_neg h, e]

open Go.Lib in
theorem splitR_some (c : UInt8) (l : List UInt8) : ∃ p r, splitR c l = p :: r := by
  cases l with
  | nil => exact ⟨_, _, splitR_nil c⟩
  | cons b l =>
    by_cases h : b = c
    · subst h; exact ⟨_, _, splitR_eq b l⟩
    · rw [splitR, if_neg h]
      split
      · exact ⟨_, _, rfl⟩
      · exact ⟨_, _, rfl⟩

open Go.Lib in
theorem index_one_ne {b c : UInt8} (l : List UInt8) (h : ¬ b = c) : index (b :: l) [c] = if index l [c] == -1 then -1 else index l [c] + 1 := by
  have hp : ([c] : List UInt8).isPrefixOf (b :: l) = false := by simp [List.isPrefixOf]; exact fun e => h e.symm
  rw [index, hp]; simp

open Go.Lib in
theorem index_one_eq (c : UInt8) (l : List UInt8) : index (c :: l) [c] = 0 := by rw [index]; simp [List.isPrefixOf]

open Go.Lib in
theorem split_one (c : UInt8) : ∀ s : List UInt8, splitK [c] 0 (count s [c]) s = splitR c s
  | [] => by rw [count_miss (by simp [index]), splitR_nil]; rfl
  | b :: l => by
    have ih := split_one c l
    by_cases h : b = c
    · subst h
      rw [count_cons_eq, Nat.add_comm, splitK, if_neg (by rw [index_one_eq]; decide), index_one_eq, splitR_eq, ← ih]
      simp
    · rw [count_cons_ne b c l h]
      cases hk : count l [c] with
      | zero =>
        rw [hk] at ih
        have e : splitR c l = l :: [] := by rw [← ih]; rfl
        rw [splitR_ne h e]; rfl
      | succ k =>
        rw [hk] at ih
        obtain ⟨j, hj⟩ := index_of_count (s := l) (old := [c]) (by omega)
        have hm : ¬ (index l [c] == -1) = true := by rw [hj]; intro e; have := beq_iff_eq.1 e; omega
        rw [splitK, if_neg hm, hj] at ih
        have hj2 : index (b :: l) [c] = ((j + 1 : Nat) : Int) := by rw [index_one_ne l h, if_neg hm, hj]; omega
        rw [splitR_ne h ih.symm, splitK, if_neg (by rw [hj2]; intro e; have := beq_iff_eq.1 e; omega), hj2]
        simp

open Go.Lib in
/-- A text cut at the first byte c. -/
def cutR (c : UInt8) : List UInt8 → List UInt8 × List UInt8 × Bool
  | [] => ([], [], false)
  | b :: l => if b = c then ([], l, true) else (b :: (cutR c l).1, (cutR c l).2)

open Go.Lib in
theorem cut_one (c : UInt8) : ∀ s : List UInt8, cut s [c] = cutR c s
  | [] => by simp [cut, index, cutR]
  | b :: l => by
    have ih := cut_one c l
    unfold cut at ih ⊢
    rw [cutR]
    by_cases h : b = c
    · subst h
      rw [index_one_eq, if_pos (by decide), if_pos rfl]; simp
    · rw [if_neg h, ← ih]
      have hge := index_ge l [c]
      by_cases hm : index l [c] = -1
      · rw [index_one_ne l h, hm]; simp
      · obtain ⟨j, hj⟩ : ∃ j : Nat, index l [c] = j := ⟨(index l [c]).toNat, by omega⟩
        have hm2 : ¬ (index l [c] == -1) = true := fun e => hm (beq_iff_eq.1 e)
        have hj2 : index (b :: l) [c] = ((j + 1 : Nat) : Int) := by rw [index_one_ne l h, if_neg hm2, hj]; omega
        rw [hj2, hj, if_pos (by omega), if_pos (by omega)]
        simp

open Go.Lib in
theorem cutR_len (c : UInt8) : ∀ s : List UInt8, (cutR c s).1.length + (cutR c s).2.1.length ≤ s.length
  | [] => by simp [cutR]
  | b :: l => by
    have ih := cutR_len c l
    rw [cutR]
    split
    · simp
    · simp only [List.length_cons]; omega

open Go.Lib in
theorem splitR_no {c : UInt8} : ∀ {l : List UInt8}, c ∉ l → splitR c l = [l]
  | [], _ => splitR_nil c
  | b :: l, h => by
    have h1 := splitR_no (c := c) (l := l) fun hm => h (List.mem_cons_of_mem _ hm)
    exact splitR_ne (fun e => h (by rw [e]; exact List.mem_cons_self)) h1

open Go.Lib in
theorem splitR_app {c : UInt8} {r : List UInt8} : ∀ {p : List UInt8}, c ∉ p → splitR c (p ++ c :: r) = p :: splitR c r
  | [], _ => splitR_eq c r
  | b :: l, h => splitR_ne (fun e => h (by rw [e]; exact List.mem_cons_self)) (splitR_app (p := l) fun hm => h (List.mem_cons_of_mem _ hm))

open Go.Lib in
/-- Pieces without c, joined by c, are divided into themselves. -/
theorem splitR_join {c : UInt8} {x : List UInt8} : ∀ {r : List (List UInt8)}, (∀ p ∈ x :: r, c ∉ p) → splitR c (join (x :: r) [c]) = x :: r
  | [], h => by rw [join_one]; exact splitR_no (h x (by simp))
  | y :: r, h => by
    have ih := splitR_join (x := y) (r := r) fun p hp => h p (List.mem_cons_of_mem _ hp)
    have e : join (x :: y :: r) [c] = x ++ c :: join (y :: r) [c] := by rw [join_cons, join_cons]; simp [joinTail]
    rw [e, splitR_app (h x (by simp)), ih]

open Go.Lib in
theorem splitR_len (c : UInt8) : ∀ l : List UInt8, (splitR c l).length ≤ l.length + 1 ∧ 1 ≤ (splitR c l).length
  | [] => by rw [splitR_nil]; simp
  | b :: l => by
    obtain ⟨h1, h2⟩ := splitR_len c l
    obtain ⟨p, r, e⟩ := splitR_some c l
    by_cases h : b = c
    · subst h; rw [splitR_eq]; simp only [List.length_cons]; omega
    · rw [splitR_ne h e]; rw [e] at h1 h2; simp only [List.length_cons] at h1 h2 ⊢; omega

open Go.Lib in
theorem splitR_piece (c : UInt8) : ∀ (l : List UInt8), ∀ p ∈ splitR c l, p.length ≤ l.length
  | [], p, hp => by rw [splitR_nil] at hp; rw [List.mem_singleton.1 hp]; simp
  | b :: l, p, hp => by
    obtain ⟨q, r, e⟩ := splitR_some c l
    by_cases h : b = c
    · subst h
      rw [splitR_eq] at hp
      rcases List.mem_cons.1 hp with rfl | hp
      · simp
      · have := splitR_piece b l p hp; simp only [List.length_cons]; omega
    · rw [splitR_ne h e] at hp
      rcases List.mem_cons.1 hp with rfl | hp
      · have := splitR_piece c l q (by rw [e]; simp); simp only [List.length_cons]; omega
      · have := splitR_piece c l p (by rw [e]; exact List.mem_cons_of_mem _ hp); simp only [List.length_cons]; omega

open Go.Lib in
theorem cutR_app {c : UInt8} {r : List UInt8} : ∀ {p : List UInt8}, c ∉ p → cutR c (p ++ c :: r) = (p, r, true)
  | [], _ => by rw [List.nil_append, cutR, if_pos rfl]
  | b :: l, h => by rw [List.cons_append, cutR, if_neg (fun e => h (by rw [e]; exact List.mem_cons_self)), cutR_app (p := l) fun hm => h (List.mem_cons_of_mem _ hm)]

open Go.Lib in
def IfVar (w : World) (n : String) : Prop := ∃ tp p, w.var? Tryd.prog n = some #[.iface tp p]

open Go.Lib in
def MaxAt (w : World) : Prop := ∃ m, w.cell? ⟨0, 0, none⟩ = some (.int .i64 m)

open Go.Lib in
/-- What the library's readers look up. -/
def Glob2 (w : World) : Prop := Glob w ∧ (IfVar w "strconv.ErrSyntax" ∧ IfVar w "strconv.ErrRange") ∧ MaxAt w

open Go.Lib in
theorem synNum : Tryd.prog.globalNamed "strconv.ErrSyntax" = some 3 := by kernel_rfl

open Go.Lib in
theorem rngNum : Tryd.prog.globalNamed "strconv.ErrRange" = some 4 := by kernel_rfl

open Go.Lib in
theorem ifvar_below {w w' : World} {n : String} {g : Nat} (hg : Tryd.prog.globalNamed n = some g) (h : IfVar w n) (hb : Below w.heap.size w w') : IfVar w' n := by
  obtain ⟨tp, p, h⟩ := h
  refine ⟨tp, p, ?_⟩
  unfold World.var? at h ⊢
  rw [hg] at h ⊢
  simp only [Option.bind_some] at h ⊢
  have hlt : g < w.heap.size := by
    rcases Nat.lt_or_ge g w.heap.size with hlt | hge
    · exact hlt
    · rw [Array.getElem?_eq_none hge] at h; cases h
  rw [hb.block g hlt]
  exact h

open Go.Lib in
theorem max_below {w w' : World} (h : MaxAt w) (hb : Below w.heap.size w w') : MaxAt w' := by
  obtain ⟨m, h⟩ := h
  refine ⟨m, ?_⟩
  unfold World.cell? at h ⊢
  have hlt : 0 < w.heap.size := by
    rcases Nat.lt_or_ge 0 w.heap.size with hlt | hge
    · exact hlt
    · rw [Array.getElem?_eq_none hge] at h; cases h
  rw [hb.block _ hlt]
  exact h

open Go.Lib in
theorem Held.glob2 {w0 w : World} {rs : List Res} (h : Held Nob w0 rs w) (hG : Glob2 w0) : Glob2 w := ⟨h.glob hG.1, ⟨ifvar_below synNum hG.2.1.1 h.below, ifvar_below rngNum hG.2.1.2 h.below⟩, max_below hG.2.2 h.below⟩

open Go.Lib in
def shelf_C174_ren : Go.Shelf.Ren := ⟨fun | 174 => 53 | 247 => 73 | 245 => 74 | 287 => 94 | 279 => 95 | 280 => 96 | 281 => 97 | 282 => 98 | 321 => 107 | 322 => 108 | 316 => 109 | 171 => 111 | 205 => 110 | 243 => 116 | 246 => 99 | 283 => 112 | 284 => 113 | 285 => 114 | 286 => 115 | 129 => 118 | 317 => 117 | 318 => 119 | 319 => 120 | 320 => 121 | 337 => 122 | 338 => 123 | n => n, fun | 9 => 9 | 3 => 3 | 2 => 2 | 75 => 76 | 85 => 77 | 4 => 4 | 167 => 116 | 5 => 5 | 53 => 117 | 175 => 118 | 46 => 115 | 168 => 120 | 37 => 92 | 0 => 0 | 210 => 138 | 21 => 21 | 127 => 113 | 145 => 148 | 143 => 146 | 171 => 141 | 173 => 144 | 212 => 150 | 51 => 132 | 20 => 20 | 213 => 151 | 232 => 155 | 233 => 156 | 80 => 100 | n => n, fun | 15 => 3 | 16 => 4 | 17 => 5 | 18 => 6 | 19 => 7 | n => n⟩

open Go.Lib in
theorem shelf_C174 : Go.Proofs.LaysC.n174 Tryd.prog shelf_C174_ren := {
  mixed := by kernel_rfl
  f129 := Tryd.func118.trans (congrArg some (by kernel_rfl))
  f171 := Tryd.func111.trans (congrArg some (by kernel_rfl))
  f174 := Tryd.func53.trans (congrArg some (by kernel_rfl))
  f205 := Tryd.func110.trans (congrArg some (by kernel_rfl))
  f243 := Tryd.func116.trans (congrArg some (by kernel_rfl))
  f245 := Tryd.func74.trans (congrArg some (by kernel_rfl))
  f246 := Tryd.func99.trans (congrArg some (by kernel_rfl))
  f247 := Tryd.func73.trans (congrArg some (by kernel_rfl))
  f279 := Tryd.func95.trans (congrArg some (by kernel_rfl))
  f280 := Tryd.func96.trans (congrArg some (by kernel_rfl))
  f281 := Tryd.func97.trans (congrArg some (by kernel_rfl))
  f282 := Tryd.func98.trans (congrArg some (by kernel_rfl))
  f283 := Tryd.func112.trans (congrArg some (by kernel_rfl))
  f284 := Tryd.func113.trans (congrArg some (by kernel_rfl))
  f285 := Tryd.func114.trans (congrArg some (by kernel_rfl))
  f286 := Tryd.func115.trans (congrArg some (by kernel_rfl))
  f287 := Tryd.func94.trans (congrArg some (by kernel_rfl))
  f316 := Tryd.func109.trans (congrArg some (by kernel_rfl))
  f317 := Tryd.func117.trans (congrArg some (by kernel_rfl))
  f318 := Tryd.func119.trans (congrArg some (by kernel_rfl))
  f319 := Tryd.func120.trans (congrArg some (by kernel_rfl))
  f320 := Tryd.func121.trans (congrArg some (by kernel_rfl))
  f321 := Tryd.func107.trans (congrArg some (by kernel_rfl))
  f322 := Tryd.func108.trans (congrArg some (by kernel_rfl))
  f337 := Tryd.func122.trans (congrArg some (by kernel_rfl))
  f338 := Tryd.func123.trans (congrArg some (by kernel_rfl))
  t0 := Tryd.underlying0
  a0 := Tryd.isAgg0
  z0 := Tryd.sizeOf0
  v0 := Tryd.zeroValue0
  t2 := Tryd.underlying2
  a2 := Tryd.isAgg2
  z2 := Tryd.sizeOf2
  v2 := Tryd.zeroValue2
  t3 := Tryd.underlying3
  a3 := Tryd.isAgg3
  z3 := Tryd.sizeOf3
  v3 := Tryd.zeroValue3
  t4 := Tryd.underlying4
  a4 := Tryd.isAgg4
  z4 := Tryd.sizeOf4
  v4 := Tryd.zeroValue4
  t5 := Tryd.underlying5
  a5 := Tryd.isAgg5
  z5 := Tryd.sizeOf5
  v5 := Tryd.zeroValue5
  t9 := Tryd.underlying9
  a9 := Tryd.isAgg9
  z9 := Tryd.sizeOf9
  v9 := Tryd.zeroValue9
  t20 := Tryd.underlying20
  a20 := Tryd.isAgg20
  z20 := Tryd.sizeOf20
  v20 := Tryd.zeroValue20
  t21 := Tryd.underlying21
  a21 := Tryd.isAgg21
  z21 := Tryd.sizeOf21
  v21 := Tryd.zeroValue21
  t37 := Tryd.underlying92
  a37 := Tryd.isAgg92
  z37 := Tryd.sizeOf92
  v37 := Tryd.zeroValue92
  t46 := Tryd.underlying115
  a46 := Tryd.isAgg115
  z46 := Tryd.sizeOf115
  v46 := Tryd.zeroValue115
  t51 := Tryd.underlying132
  a51 := Tryd.isAgg132
  z51 := Tryd.sizeOf132
  v51 := Tryd.zeroValue132
  t53 := Tryd.underlying117
  a53 := Tryd.isAgg117
  z53 := Tryd.sizeOf117
  v53 := Tryd.zeroValue117
  t75 := Tryd.underlying76
  a75 := Tryd.isAgg76
  z75 := Tryd.sizeOf76
  v75 := Tryd.zeroValue76
  t85 := Tryd.underlying77
  a85 := Tryd.isAgg77
  z85 := Tryd.sizeOf77
  v85 := Tryd.zeroValue77
  t127 := Tryd.underlying113
  a127 := Tryd.isAgg113
  z127 := Tryd.sizeOf113
  v127 := Tryd.zeroValue113
  t143 := Tryd.underlying146
  a143 := Tryd.isAgg146
  z143 := Tryd.sizeOf146
  v143 := Tryd.zeroValue146
  t145 := Tryd.underlying148
  a145 := Tryd.isAgg148
  z145 := Tryd.sizeOf148
  v145 := Tryd.zeroValue148
  t167 := Tryd.underlying116
  a167 := Tryd.isAgg116
  z167 := Tryd.sizeOf116
  v167 := Tryd.zeroValue116
  t168 := Tryd.underlying120
  a168 := Tryd.isAgg120
  z168 := Tryd.sizeOf120
  v168 := Tryd.zeroValue120
  t171 := Tryd.underlying141
  a171 := Tryd.isAgg141
  z171 := Tryd.sizeOf141
  v171 := Tryd.zeroValue141
  t173 := Tryd.underlying144
  a173 := Tryd.isAgg144
  z173 := Tryd.sizeOf144
  v173 := Tryd.zeroValue144
  t175 := Tryd.underlying118
  a175 := Tryd.isAgg118
  z175 := Tryd.sizeOf118
  v175 := Tryd.zeroValue118
  t210 := Tryd.underlying138
  a210 := Tryd.isAgg138
  z210 := Tryd.sizeOf138
  v210 := Tryd.zeroValue138
  t212 := Tryd.underlying150
  a212 := Tryd.isAgg150
  z212 := Tryd.sizeOf150
  v212 := Tryd.zeroValue150
  t213 := Tryd.underlying151
  a213 := Tryd.isAgg151
  z213 := Tryd.sizeOf151
  t232 := Tryd.underlying155
  a232 := Tryd.isAgg155
  z232 := Tryd.sizeOf155
  v232 := Tryd.zeroValue155
  t233 := Tryd.underlying156
  a233 := Tryd.isAgg156
  z233 := Tryd.sizeOf156
  v233 := Tryd.zeroValue156
  g15 := by kernel_rfl
  g16 := by kernel_rfl
  g17 := by kernel_rfl
  g18 := by kernel_rfl
  g19 := by kernel_rfl
  t80 := Tryd.underlying100
  a80 := Tryd.isAgg100
  z80 := Tryd.sizeOf100
  v80 := Tryd.zeroValue100
  i0 := by kernel_rfl
  i2 := by kernel_rfl
  i3 := by kernel_rfl
  i4 := by kernel_rfl
  i5 := by kernel_rfl
  i9 := by kernel_rfl
  i20 := by kernel_rfl
  i21 := by kernel_rfl
  i37 := by kernel_rfl
  i46 := by kernel_rfl
  i51 := by kernel_rfl
  i53 := by kernel_rfl
  i75 := by kernel_rfl
  i80 := by kernel_rfl
  i85 := by kernel_rfl
  i127 := by kernel_rfl
  i143 := by kernel_rfl
  i145 := by kernel_rfl
  i167 := by kernel_rfl
  i168 := by kernel_rfl
  i171 := by kernel_rfl
  i173 := by kernel_rfl
  i175 := by kernel_rfl
  i210 := by kernel_rfl
  i212 := by kernel_rfl
  i232 := by kernel_rfl
  i233 := by kernel_rfl
  m15 := by kernel_rfl
  m16 := by kernel_rfl
  m17 := by kernel_rfl
  m18 := by kernel_rfl
  m19 := by kernel_rfl
  c0 := by kernel_rfl
  c2 := by kernel_rfl
  c3 := by kernel_rfl
  c4 := by kernel_rfl
  c5 := by kernel_rfl
  c9 := by kernel_rfl
  c20 := by kernel_rfl
  c21 := by kernel_rfl
  c37 := by kernel_rfl
  c46 := by kernel_rfl
  c51 := by kernel_rfl
  c53 := by kernel_rfl
  c75 := by kernel_rfl
  c80 := by kernel_rfl
  c85 := by kernel_rfl
  c127 := by kernel_rfl
  c143 := by kernel_rfl
  c145 := by kernel_rfl
  c167 := by kernel_rfl
  c168 := by kernel_rfl
  c171 := by kernel_rfl
  c173 := by kernel_rfl
  c175 := by kernel_rfl
  c210 := by kernel_rfl
  c212 := by kernel_rfl
  c213 := by kernel_rfl
  c232 := by kernel_rfl
  c233 := by kernel_rfl }

open Go.Lib in
def shelf_146_ren : Go.Shelf.Ren := ⟨fun | 146 => 35 | 221 => 51 | 268 => 71 | 138 => 65 | 143 => 67 | 195 => 85 | 197 => 69 | 218 => 86 | 219 => 72 | 260 => 89 | 217 => 90 | 225 => 91 | 224 => 92 | 267 => 93 | 266 => 105 | 314 => 106 | n => n, fun | 9 => 9 | 31 => 43 | 3 => 3 | 4 => 4 | 0 => 0 | 105 => 98 | 21 => 21 | 5 => 5 | 46 => 115 | 119 => 128 | 139 => 131 | 138 => 130 | 146 => 133 | 51 => 132 | n => n, fun | 1 => 0 | 3 => 1 | 4 => 2 | n => n⟩

open Go.Lib in
theorem shelf_146 : Go.Proofs.Lays.n146 Tryd.prog shelf_146_ren := {
  mixed := by kernel_rfl
  f138 := Tryd.func65.trans (congrArg some (by kernel_rfl))
  f143 := Tryd.func67.trans (congrArg some (by kernel_rfl))
  f146 := Tryd.func35.trans (congrArg some (by kernel_rfl))
  f195 := Tryd.func85.trans (congrArg some (by kernel_rfl))
  f197 := Tryd.func69.trans (congrArg some (by kernel_rfl))
  f217 := Tryd.func90.trans (congrArg some (by kernel_rfl))
  f218 := Tryd.func86.trans (congrArg some (by kernel_rfl))
  f219 := Tryd.func72.trans (congrArg some (by kernel_rfl))
  f221 := Tryd.func51.trans (congrArg some (by kernel_rfl))
  f224 := Tryd.func92.trans (congrArg some (by kernel_rfl))
  f225 := Tryd.func91.trans (congrArg some (by kernel_rfl))
  f260 := Tryd.func89.trans (congrArg some (by kernel_rfl))
  f266 := Tryd.func105.trans (congrArg some (by kernel_rfl))
  f267 := Tryd.func93.trans (congrArg some (by kernel_rfl))
  f268 := Tryd.func71.trans (congrArg some (by kernel_rfl))
  f314 := Tryd.func106.trans (congrArg some (by kernel_rfl))
  t0 := Tryd.underlying0
  a0 := Tryd.isAgg0
  z0 := Tryd.sizeOf0
  v0 := Tryd.zeroValue0
  t3 := Tryd.underlying3
  a3 := Tryd.isAgg3
  z3 := Tryd.sizeOf3
  v3 := Tryd.zeroValue3
  t4 := Tryd.underlying4
  a4 := Tryd.isAgg4
  z4 := Tryd.sizeOf4
  v4 := Tryd.zeroValue4
  t5 := Tryd.underlying5
  a5 := Tryd.isAgg5
  z5 := Tryd.sizeOf5
  v5 := Tryd.zeroValue5
  t9 := Tryd.underlying9
  a9 := Tryd.isAgg9
  z9 := Tryd.sizeOf9
  v9 := Tryd.zeroValue9
  t21 := Tryd.underlying21
  a21 := Tryd.isAgg21
  z21 := Tryd.sizeOf21
  v21 := Tryd.zeroValue21
  t31 := Tryd.underlying43
  a31 := Tryd.isAgg43
  z31 := Tryd.sizeOf43
  v31 := Tryd.zeroValue43
  t46 := Tryd.underlying115
  a46 := Tryd.isAgg115
  z46 := Tryd.sizeOf115
  v46 := Tryd.zeroValue115
  t51 := Tryd.underlying132
  a51 := Tryd.isAgg132
  z51 := Tryd.sizeOf132
  v51 := Tryd.zeroValue132
  t105 := Tryd.underlying98
  a105 := Tryd.isAgg98
  z105 := Tryd.sizeOf98
  v105 := Tryd.zeroValue98
  t119 := Tryd.underlying128
  a119 := Tryd.isAgg128
  z119 := Tryd.sizeOf128
  t138 := Tryd.underlying130
  a138 := Tryd.isAgg130
  z138 := Tryd.sizeOf130
  v138 := Tryd.zeroValue130
  t139 := Tryd.underlying131
  a139 := Tryd.isAgg131
  z139 := Tryd.sizeOf131
  v139 := Tryd.zeroValue131
  t146 := Tryd.underlying133
  a146 := Tryd.isAgg133
  z146 := Tryd.sizeOf133
  v146 := Tryd.zeroValue133
  g1 := by kernel_rfl
  g3 := by kernel_rfl
  g4 := by kernel_rfl }

open Go.Lib in
def shelf_145_ren : Go.Shelf.Ren := ⟨fun | 145 => 36 | 220 => 52 | 219 => 72 | 217 => 90 | 225 => 91 | 224 => 92 | 267 => 93 | 266 => 105 | 314 => 106 | n => n, fun | 9 => 9 | 4 => 4 | 59 => 59 | 3 => 3 | 5 => 5 | 46 => 115 | 146 => 133 | 51 => 132 | n => n, fun | 1 => 0 | n => n⟩

open Go.Lib in
theorem shelf_145 : Go.Proofs.Lays.n145 Tryd.prog shelf_145_ren := {
  mixed := by kernel_rfl
  f145 := Tryd.func36.trans (congrArg some (by kernel_rfl))
  f217 := Tryd.func90.trans (congrArg some (by kernel_rfl))
  f219 := Tryd.func72.trans (congrArg some (by kernel_rfl))
  f220 := Tryd.func52.trans (congrArg some (by kernel_rfl))
  f224 := Tryd.func92.trans (congrArg some (by kernel_rfl))
  f225 := Tryd.func91.trans (congrArg some (by kernel_rfl))
  f266 := Tryd.func105.trans (congrArg some (by kernel_rfl))
  f267 := Tryd.func93.trans (congrArg some (by kernel_rfl))
  f314 := Tryd.func106.trans (congrArg some (by kernel_rfl))
  t3 := Tryd.underlying3
  a3 := Tryd.isAgg3
  z3 := Tryd.sizeOf3
  v3 := Tryd.zeroValue3
  t4 := Tryd.underlying4
  a4 := Tryd.isAgg4
  z4 := Tryd.sizeOf4
  v4 := Tryd.zeroValue4
  t5 := Tryd.underlying5
  a5 := Tryd.isAgg5
  z5 := Tryd.sizeOf5
  v5 := Tryd.zeroValue5
  t9 := Tryd.underlying9
  a9 := Tryd.isAgg9
  z9 := Tryd.sizeOf9
  v9 := Tryd.zeroValue9
  t46 := Tryd.underlying115
  a46 := Tryd.isAgg115
  z46 := Tryd.sizeOf115
  v46 := Tryd.zeroValue115
  t51 := Tryd.underlying132
  a51 := Tryd.isAgg132
  z51 := Tryd.sizeOf132
  v51 := Tryd.zeroValue132
  t59 := Tryd.underlying59
  a59 := Tryd.isAgg59
  z59 := Tryd.sizeOf59
  v59 := Tryd.zeroValue59
  t146 := Tryd.underlying133
  a146 := Tryd.isAgg133
  z146 := Tryd.sizeOf133
  v146 := Tryd.zeroValue133
  g1 := by kernel_rfl }

open Go.Lib in
def shelf_101_ren : Go.Shelf.Ren := ⟨fun | 101 => 55 | 208 => 76 | 206 => 100 | n => n, fun | 9 => 9 | 4 => 4 | 3 => 3 | n => n, fun | n => n⟩

open Go.Lib in
theorem shelf_101 : Go.Proofs.Lays.n101 Tryd.prog shelf_101_ren := {
  mixed := by kernel_rfl
  f101 := Tryd.func55.trans (congrArg some (by kernel_rfl))
  f206 := Tryd.func100.trans (congrArg some (by kernel_rfl))
  f208 := Tryd.func76.trans (congrArg some (by kernel_rfl))
  t3 := Tryd.underlying3
  a3 := Tryd.isAgg3
  z3 := Tryd.sizeOf3
  v3 := Tryd.zeroValue3
  t4 := Tryd.underlying4
  a4 := Tryd.isAgg4
  z4 := Tryd.sizeOf4
  v4 := Tryd.zeroValue4
  t9 := Tryd.underlying9
  a9 := Tryd.isAgg9
  z9 := Tryd.sizeOf9
  v9 := Tryd.zeroValue9 }

open Go.Lib in
/-- An error value that is nil or not. -/
def IsErr (v : Value) (b : Bool) : Prop := if b = true then ∃ t x, v = .iface t x else v = .nilIface

open Go.Lib in
theorem x_neqNil {P : Program} {S : World → Prop} {L : List (Nat × Value)} {d : Option Tmp} {t t' : TypeId} {x : Operand} {v : Value} {r : Bool} {ty : TypeId} {pos : String} {af : Array Edge} {g : Option (Nat × Bool)} (hv : IsErr v r) (hi : P.isIface t = true) (hx : ev L x = some v) : XS P S L ⟨d, .binOp .neq t x (.const .nilIface) t', ty, pos, af, g⟩ (.bool r) := fun _ a w hE _ => by
  have hn : a.eval (.const .nilIface) = Value.nilIface := rfl
  cases r with
  | true =>
    obtain ⟨u, y, rfl⟩ := hv
    have hg : (eqGuard .neq t x (.const .nilIface) (.iface u y) .nilIface).run P w = .ok () w := rfl
    simp only [execOp, hE.ev hx, hn, Sem.run_bind, hg, Result.andThen_ok, run_neq_iface_nil w t hi u y, Sem.run_pure]
  | false =>
    obtain rfl := hv
    have hg : (eqGuard .neq t x (.const .nilIface) .nilIface .nilIface).run P w = .ok () w := by
      cases x <;> rfl
    simp only [execOp, hE.ev hx, hn, Sem.run_bind, hg, Result.andThen_ok, run_neq_nil_nil_at w t hi, Sem.run_pure]

open Go.Lib in
def parI (s : List UInt8) : Int × Bool := match parseIntB 64 s with
  | .ok v => (v, false)
  | .range => (Go.Lib.intSat 64 s, true)
  | _ => (0, true)

open Go.Lib in
theorem bs_list (s : List UInt8) : (bs s).data.toList = s := by simp [bs]

open Go.Lib in
theorem ParseInt_64 (a0 : List UInt8) (a1 a2 : Int) (w : World) (hG : Glob2 w) (s0 : a0.length ≤ 1000000000) (s1 : a1 = 10) (s2 : a2 = 64) :
    Calls Tryd.prog 53 #[.string (bs a0), .int .i64 a1, .int .i64 a2] w fun e w' => ∃ er, e = .returned (.tuple #[.int .i64 (parI a0).1, er]) ∧ IsErr er (parI a0).2 ∧ Below w.heap.size w w' := by
  subst s1; subst s2
  have hz := bs_size a0
  have hl := bs_list a0
  cases hp : parseIntB 64 a0 with
  | ok v =>
    refine (show Calls Tryd.prog 53 #[.string (bs a0), .int .i64 10, .int .i64 64] w _ from Any.strconv_ParseInt_10_at64_ok shelf_C174 (bs a0) (by omega) v (by rw [hl]; exact hp) w).mono ?_
    rintro e w' ⟨rfl, h⟩
    unfold parI; rw [hp]
    refine ⟨_, rfl, rfl, ?_⟩
    rcases h with rfl | ⟨t, rfl⟩
    · exact Below.refl _ _
    · exact Go.Lib.bytesWorld_below _ _ _
  | range =>
    obtain ⟨tp, p, hv⟩ := hG.2.1.2
    refine (show Calls Tryd.prog 53 #[.string (bs a0), .int .i64 10, .int .i64 64] w _ from Any.strconv_ParseInt_10_at64_range_var shelf_C174 (bs a0) (by omega) (by rw [hl]; exact hp) tp p w hv).mono ?_
    rintro e w' ⟨N, rfl, _, _, h⟩
    unfold parI; rw [hp]
    rw [hl]
    exact ⟨_, rfl, ⟨_, _, rfl⟩, h⟩
  | _ =>
    obtain ⟨tp, p, hv⟩ := hG.2.1.1
    refine (show Calls Tryd.prog 53 #[.string (bs a0), .int .i64 10, .int .i64 64] w _ from Any.strconv_ParseInt_10_at64_syntax_var shelf_C174 (bs a0) (by omega) (by rw [hl]; exact hp) tp p w hv).mono ?_
    rintro e w' ⟨N, rfl, _, _, h⟩
    unfold parI; rw [hp]
    exact ⟨_, rfl, ⟨_, _, rfl⟩, h⟩

open Go.Lib in
theorem so_txt_alloc (w : World) (t : TypeId) (xs : List (List UInt8)) (h : ∀ x ∈ xs, x.length ≤ 9223372036854775807) (hl : xs.length ≤ 1000000000000) : So eTxt (w.alloc (.cells (xs.map fun x => Value.string (bs x)).toArray t)) (Fr w (w.alloc (.cells (xs.map fun x => Value.string (bs x)).toArray t))) (some ⟨w.heap.size, 0, none⟩) xs.length xs := by
  refine ⟨Nat.le_refl _, by unfold maxLen; omega, fun _ => ⟨w.heap.size, 0, t, (xs.map fun x => Value.string (bs x)).toArray, fun _ _ => False, rfl, ⟨Nat.le_refl _, by simp⟩, Blk.new _ _ _, fun _ _ h => h.elim, fun _ _ _ h => h.elim, fun i x hx => ⟨[.string (bs x)], ⟨rfl, h x (List.mem_of_getElem? hx)⟩, fun j v hj => ?_⟩⟩⟩
  match j, hj with
  | 0, hj =>
    simp only [List.getElem?_cons_zero, Option.some.injEq] at hj
    subst hj
    simp [eTxt, hx]

open Go.Lib in
theorem split_bs (c : UInt8) (s : List UInt8) : (splitB (bs [c]) 0 (countB (bs s) (bs [c])) (bs s)).map Value.string = (splitR c s).map fun x => Value.string (bs x) := by
  have h1 := splitB_data (bs [c]) 0 (countB (bs s) (bs [c])) (bs s)
  have h2 : countB (bs s) (bs [c]) = count s [c] := by unfold countB; rw [bs_list, bs_list]
  rw [bs_list, bs_list, h2, split_one] at h1
  rw [← h1, List.map_map, h2]
  exact List.map_congr_left fun x _ => by simp [bs_eta]

open Go.Lib in
theorem split_count (c : UInt8) (s : List UInt8) : countB (bs s) (bs [c]) + 1 = (splitR c s).length := by
  have h := congrArg List.length (split_bs c s)
  rw [List.length_map, List.length_map, splitB_all (bs [c]) (by rw [bs_size]; simp) 0 _ (bs s) rfl] at h
  exact h

open Go.Lib in
theorem Split_1 (a0 a1 : List UInt8) (c : UInt8) (w : World) (hG : Glob2 w) (s0 : a0.length ≤ 1000000000) (s1 : a1 = [c]) :
    Calls Tryd.prog 35 #[.string (bs a0), .string (bs a1)] w fun e w' => ∃ A' c', e = .returned (.slice A' (splitR c a0).length c') ∧ So eTxt w' (Fr w w') A' c' (splitR c a0) ∧ Below w.heap.size w w' := by
  subst s1
  have hz := bs_size a0
  have h1 := splitR_len c a0
  obtain ⟨m, hm⟩ := hG.2.2
  refine (show Calls Tryd.prog 35 #[.string (bs a0), .string (bs [c])] w _ from Any.strings_Split shelf_146 (by kernel_rfl) (bs a0) (bs [c]) m w (by omega) hm (by rw [bs_size]; simp)).mono ?_
  rintro e w' ⟨rfl, rfl⟩
  rw [split_bs, split_count]
  exact ⟨_, _, rfl, so_txt_alloc w _ _ (fun x hx => by have := splitR_piece c a0 x hx; omega) (by omega), (Below.refl _ w).alloc (Nat.le_refl _) _⟩

open Go.Lib in
theorem Cut_1 (a0 a1 : List UInt8) (c : UInt8) (w : World) (hG : Glob2 w) (s0 : a0.length ≤ 1000000000) (s1 : a1 = [c]) :
    Calls Tryd.prog 36 #[.string (bs a0), .string (bs a1)] w fun e w' => e = .returned (.tuple #[.string (bs (cutR c a0).1), .string (bs (cutR c a0).2.1), .bool (cutR c a0).2.2]) ∧ Below w.heap.size w w' := by
  subst s1
  have hz := bs_size a0
  obtain ⟨m, hm⟩ := hG.2.2
  refine (show Calls Tryd.prog 36 #[.string (bs a0), .string (bs [c])] w _ from Any.strings_Cut shelf_145 (bs a0) (bs [c]) m w (by omega) hm).mono ?_
  rintro e w' ⟨rfl, n, rfl⟩
  rw [bs_list, bs_list, cut_one]
  exact ⟨rfl, ⟨rfl, rfl, rfl, Nat.le_refl _, fun _ _ => rfl⟩⟩

open Go.Lib in
theorem TrimMinus (a0 a1 : List UInt8) (w : World) (s1 : a1 = [45]) :
    Calls Tryd.prog 55 #[.string (bs a0), .string (bs a1)] w fun e w' => e = .returned (.string (bs (unsg a0))) ∧ Below w.heap.size w w' := by
  subst s1
  refine (show Calls Tryd.prog 55 #[.string (bs a0), .string (bs [45])] w _ from Any.strings_TrimPrefix shelf_101 (bs a0) (bs [45]) w).mono ?_
  rintro e w' ⟨rfl, rfl⟩
  refine ⟨?_, Below.refl _ _⟩
  rw [bs_list, bs_list]
  have : trimPrefix a0 [45] = unsg a0 := by
    unfold trimPrefix unsg
    cases a0 with
    | nil => simp [hasPrefix]
    | cons x r =>
      by_cases h : x = 45
      · subst h; simp [hasPrefix, List.isPrefixOf]
      · have h2 : ¬ (45 : UInt8) = x := fun e => h e.symm
        simp [hasPrefix, h, h2, List.isPrefixOf]
  rw [this]

open Go.Lib in
theorem unsg_len (s : List UInt8) : (unsg s).length ≤ s.length := by
  unfold unsg; split
  · simp
  · exact Nat.le_refl _

open Go.Lib in
theorem parI_bd {s : List UInt8} (h : (parI s).2 = false) : -9223372036854775808 ≤ (parI s).1 ∧ (parI s).1 ≤ 9223372036854775807 := by
  unfold parI at h ⊢
  cases hp : parseIntB 64 s with
  | ok v => have := parseIntB_bounds hp; rw [hp] at h; simp only; omega
  | _ => rw [hp] at h; exact absurd h (by simp)

open Go.Lib in
theorem numR_def (s : List UInt8) : numR s = if (parI s).2 = true then (0, false) else if Go.Lib.itoa (parI s).1 = s ∧ (unsg s).length ≤ 18 then ((parI s).1, true) else (0, false) := by
  unfold numR parI
  cases hp : parseIntB 64 s with
  | ok v => simp
  | _ => simp

open Go.Lib in
theorem numC_bd (s : List UInt8) : -1000000000000000000 < (numC s).1 ∧ (numC s).1 < 1000000000000000000 := by
  unfold numC
  split
  · rename_i h; exact (itoa_num h).2
  · decide

open Go.Lib in
theorem numR_bd (s : List UInt8) : -1000000000000000000 < (numR s).1 ∧ (numR s).1 < 1000000000000000000 := by rw [numR_eq]; exact numC_bd s

open Go.Lib in
def preP (p : List UInt8) : List (List UInt8) → List (List UInt8)
  | [] => [p]
  | q :: r => (p ++ q) :: r

open Go.Lib in
theorem spl_ne {c : UInt8} {s : List UInt8} {l : List (List UInt8)} {j : Int} {k : Nat} (h : splitR c s = l ++ preP ((s.drop j.toNat).take (k - j.toNat)) (splitR c (s.drop k))) (hk : k < s.length) (hj : 0 ≤ j ∧ j ≤ (k : Int)) (hn : ¬ s[k] = c) : splitR c s = l ++ preP ((s.drop j.toNat).take (k + 1 - j.toNat)) (splitR c (s.drop (k + 1))) := by
  rw [h]
  congr 1
  obtain ⟨p, r, e⟩ := splitR_some c (s.drop (k + 1))
  have e2 : (s.drop j.toNat).take (k + 1 - j.toNat) = (s.drop j.toNat).take (k - j.toNat) ++ [s[k]] := by
    rw [show k + 1 - j.toNat = (k - j.toNat) + 1 from by omega, List.take_succ_eq_append_getElem (by rw [List.length_drop]; omega), List.getElem_drop]
    congr 3
    omega
  rw [List.drop_eq_getElem_cons hk, splitR_ne hn e, e, e2, preP, preP]
  simp

open Go.Lib in
theorem spl_eq {c : UInt8} {s : List UInt8} {l : List (List UInt8)} {j : Int} {k : Nat} (h : splitR c s = l ++ preP ((s.drop j.toNat).take (k - j.toNat)) (splitR c (s.drop k))) (hk : k < s.length) (he : s[k] = c) : splitR c s = (l ++ [(s.drop j.toNat).take (k - j.toNat)]) ++ preP ((s.drop ((k : Int) + 1).toNat).take (k + 1 - ((k : Int) + 1).toNat)) (splitR c (s.drop (k + 1))) := by
  rw [h]
  obtain ⟨p, r, e⟩ := splitR_some c (s.drop (k + 1))
  rw [List.drop_eq_getElem_cons hk, he, splitR_eq, e, show k + 1 - ((k : Int) + 1).toNat = 0 from by omega, List.take_zero, preP, preP]
  simp

open Go.Lib in
theorem spl_end {c : UInt8} {s : List UInt8} {l : List (List UInt8)} {j : Int} {k : Nat} (h : splitR c s = l ++ preP ((s.drop j.toNat).take (k - j.toNat)) (splitR c (s.drop k))) (hk : k = s.length) : splitR c s = l ++ [s.drop j.toNat] := by
  rw [h]
  rw [List.drop_eq_nil_of_le (by omega : s.length ≤ k), splitR_nil, preP, List.append_nil, List.take_of_length_le (by rw [List.length_drop]; omega)]

open Go.Lib in
theorem spl_zero (c : UInt8) (s : List UInt8) : splitR c s = [] ++ preP ((s.drop (0 : Int).toNat).take (0 - (0 : Int).toNat)) (splitR c (s.drop 0)) := by
  obtain ⟨p, r, e⟩ := splitR_some c s
  simp [preP, e]

open Go.Lib in
/-- The place of the first digit. -/
def ofP (s : List UInt8) : Nat := if s.head? = some 45 then 1 else 0

open Go.Lib in
theorem unsg_drop (s : List UInt8) : unsg s = s.drop (ofP s) := by
  unfold unsg ofP; split
  · simp
  · rw [List.drop_zero]

open Go.Lib in
theorem ofP_neg {s : List UInt8} {e : UInt8} (h : 0 < s.length) (he : e = s[0]) (h45 : (e.toNat : Int) = 45) : ofP s = 1 := by
  have : e = 45 := UInt8.toNat_inj.1 (by have : (45 : UInt8).toNat = 45 := rfl; omega)
  unfold ofP
  cases s with
  | nil => simp at h
  | cons x r => simp only [List.getElem_cons_zero] at he; rw [← he, this]; rfl

open Go.Lib in
theorem ofP_pos {s : List UInt8} {e : UInt8} (h : 0 < s.length) (he : e = s[0]) (h45 : ¬ (e.toNat : Int) = 45) : ofP s = 0 := by
  unfold ofP
  cases s with
  | nil => simp at h
  | cons x r =>
    simp only [List.getElem_cons_zero] at he
    rw [if_neg]
    intro h2
    simp only [List.head?_cons, Option.some.injEq] at h2
    apply h45
    rw [he, h2]; rfl

open Go.Lib in
theorem ofP_nil {s : List UInt8} (h : ¬ 0 < s.length) : ofP s = 0 := by
  have : s = [] := List.eq_nil_of_length_eq_zero (by omega)
  subst this; rfl

open Go.Lib in
/-- The digits from the first one up to i. -/
def dgs (s : List UInt8) (i : Nat) : List UInt8 := (s.drop (ofP s)).take (i - ofP s)

open Go.Lib in
theorem dgs_step {s : List UInt8} {i : Nat} {e : UInt8} (h0 : ofP s ≤ i) (h1 : i < s.length) (he : e = s[i]) : dgs s (i + 1) = dgs s i ++ [e] := by
  unfold dgs
  rw [show i + 1 - ofP s = (i - ofP s) + 1 from by omega, List.take_succ_eq_append_getElem (by rw [List.length_drop]; omega), List.getElem_drop, he]
  congr 3
  omega

open Go.Lib in
theorem dgs_all {s : List UInt8} {i : Nat} {e : UInt8} (h : (dgs s i).all isDg = true) (h0 : ofP s ≤ i) (h1 : i < s.length) (he : e = s[i]) (hd : 48 ≤ (e.toNat : Int) ∧ (e.toNat : Int) ≤ 57) : (dgs s (i + 1)).all isDg = true := by
  rw [dgs_step h0 h1 he, List.all_append, h]
  simp only [List.all_cons, List.all_nil, Bool.and_true, Bool.true_and]
  exact isDg_iff.2 (by omega)

open Go.Lib in
theorem dgs_bd {s : List UInt8} {i : Nat} (h : (dgs s i).all isDg = true) (h1 : i < s.length) (h2 : s.length ≤ ofP s + 18) : valD 0 (dgs s i) < 100000000000000000 := by
  refine Nat.lt_of_lt_of_le (valD_lt _ 0 h) ?_
  have h3 : (dgs s i).length ≤ 17 := by unfold dgs; rw [List.length_take]; omega
  have := Nat.pow_le_pow_right (n := 10) (by omega) h3
  omega

open Go.Lib in
theorem dgs_full {s : List UInt8} {i : Nat} (h : s.length ≤ i) : dgs s i = unsg s := by
  unfold dgs; rw [unsg_drop, List.take_of_length_le (by rw [List.length_drop]; omega)]

open Go.Lib in
theorem numC_bad {s : List UInt8} (h : okNum s = false) : numC s = (0, false) := by unfold numC; rw [h]; rfl

open Go.Lib in
theorem numC_len0 {s : List UInt8} (h : s.length = ofP s) : numC s = (0, false) := by
  refine numC_bad ?_
  cases hq : okNum s with
  | false => rfl
  | true =>
    have h1 := ((okNum_iff s).1 hq).1
    rw [unsg_drop, List.drop_eq_nil_of_le (by omega)] at h1
    exact absurd rfl h1

end Go.Proofs.YthknelhboibbnaaDoor
