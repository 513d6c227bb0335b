/- What the proof of FnExactMapRegisters needs: contracts of the functions that it reaches, each once. -/
import Derived.Test.YtnokeoejlfodkaaProg
import Derived.Test.YtnokeoejlfodkaaQMem
import Derived.Test.YtnokeoejlfodkaaQOpen
import Derived.Test.YtnokeoejlfodkaaLMapRegistersa
import Derived.WalkKit
import Derived.WalkSpells
import Derived.Below
import Derived.LoopTactic
import Derived.Outline
import Derived.Deep.QuietTactic
import Derived.BigQuiet
import Derived.Deep.LoopGhost
import Derived.Handy
import Derived.Lib.Hide
import Derived.Shelf.Abstract
import Derived.StillTailTactics
import Derived.OwnWalk
import Derived.Maps.AppendAt
import Derived.RegionTactic
import Derived.Deep.RegionHeld3
import Derived.IntWalk
import Derived.Deep.Upon
import Derived.Laws.OwnMore
import Derived.Maps.AppendAt
import Derived.Lib.SliceRun
import Derived.Lib.AppendZeros
import Derived.Shelf.SortG.Plain
import Derived.Shelf.SortG.SortNone
import Derived.Shelf.SlicesG.CompactI
import Derived.Shelf.SlicesG.SearchI
import Derived.Sort.OwnSortedInts
import Derived.Lib.RowBridge
namespace Go.Proofs.Ytnokeoejlfodkaa
open Go.RowKit

/-- A whole slice of flat elements is appended. -/
theorem st_appS {P : Program} {ops : Array Oper} {Q : Exit → Act → World → Prop} {a : Act} {w : World} {K : Act → World → Prop} {n d : Nat} {L : List (Nat × Value)} {M : Nat → Prop} {w0 : World} {rs rs' : List Res} {α : Type} {E : Enc α} {enc : α → List Value} {t e : TypeId} {bytes : Nat} {S : Nat → Prop} {A B : Option Addr} {c c2 : Nat} {xs ys : List α} {x1 x2 : Operand} {ty : TypeId} {pos : String} {af : Array Edge} {gd : Option (Nat × Bool)} (hf : Flat E enc) (hE : Env n L a) (hH : Held M w0 rs w) (he : TSl P t e E.size bytes) (is : List Nat) (hn1 : is.Nodup) (his : pick rs is = some (rVec E e S A c xs :: rs'))
    (hx1 : ev L x1 = some (.slice A xs.length c)) (hx2 : ev L x2 = some (.slice B ys.length c2)) (hS : Sl E w (Old w) B c2 ys) (h63 : xs.length + ys.length ≤ maxLen) (hbytes : (xs.length + ys.length) * bytes ≤ 140737488355328) (hw : Region.wanted ⟨some d, .call { callee := .builtin .append, args := #[x1, x2], argTypes := #[t, t] }, ty, pos, af, gd⟩ (yielded ops a.tmps) = true) (hn : Nat.blt d n = true)
    (k : ∀ A' c' S' a' w', Env n ((d, .slice A' (xs ++ ys).length c') :: L) a' → Held M w0 (rVec E e S' A' c' (xs ++ ys) :: rs') w' → K a' w') : Stp P ops Q ⟨some d, .call { callee := .builtin .append, args := #[x1, x2], argTypes := #[t, t] }, ty, pos, af, gd⟩ a w K := by
  have h := hH.sel is hn1 his
  by_cases hy : ys = []
  · subst hy
    obtain ⟨i, z, hi, hz0, hz1, hz2, hz3⟩ := he.info
    obtain ⟨css, T, k1, k2, k3⟩ := h.ok _ (List.mem_cons_self)
    have hcap : xs.length ≤ c := by
      rcases k2.2 with ⟨q, _⟩ | ⟨g, cap, cur, q, _, _, hle, _⟩
      · simp only [Value.slice.injEq] at q; omega
      · simp only [Value.slice.injEq] at q; omega
    have hr : (Builtin.append_ #[t, t] ty #[.slice A xs.length c, .slice B 0 c2]).run P w = .ok (.slice A xs.length c) w := by
      cases A with
      | none => cases B <;> simp [Builtin.append_, run_underlying he.under, sizeOf, typeInfo, hi, Builtin.lenOf, Builtin.firstCells, loadCells, loadCellsFrom, hcap]
      | some ad => cases B <;> simp [Builtin.append_, run_underlying he.under, sizeOf, typeInfo, hi, Builtin.lenOf, Builtin.firstCells, loadCells, loadCellsFrom, hcap, storeCells]
    rw [List.append_nil] at k
    refine st_val hE hw ?_ rfl hn fun a' hE' => k A c S a' w hE' h
    simp only [List.length_nil] at hx2
    simp only [execOp, resolve, invoke, builtin, Sem.run_bind, Sem.run_pure, Result.andThen_ok, List.map_toArray, List.map_cons, List.map_nil, hE.ev hx1, hE.ev hx2, hr]
  · obtain ⟨b, off, rfl, _⟩ := hS.2.2 hy
    obtain ⟨A', c', S', w', e1, e2, e3, e4⟩ := run_append_vec (U := Nob) he ty h ⟨b, off, none⟩ ys c2 (ys.map enc) (by simp) (fun j u hu => hf.cells hS j u (by rw [List.flatMap_def]; exact hu)) (fun es hes u hu => by
        obtain ⟨y, _, rfl⟩ := List.mem_map.1 hes
        exact hf.one y u hu)
      (fun _ _ => False) (fun i b hb => hb.elim) (fun i j b hi hj => hi.elim) (fun i z hz => ⟨enc z, by rw [List.getElem?_map, hz]; rfl, hf.sl hS z (List.mem_of_getElem? hz) w⟩) (fun b hb => hb.elim) h63 hbytes
    have h1 : Held M w0 (rVec E e S A c xs :: ⟨Nob, fun _ => True, fun _ _ _ _ => trivial⟩ :: rs') w := by
      refine ⟨h.chg, ?_, ?_, ?_⟩
      · intro r hr
        simp only [List.mem_cons] at hr
        rcases hr with rfl | rfl | hr
        · exact h.ok _ (by simp)
        · trivial
        · exact h.ok _ (by simp [hr])
      · intro r hr
        simp only [List.mem_cons] at hr
        rcases hr with rfl | rfl | hr
        · exact h.rng _ (by simp)
        · exact fun b hb => hb.elim
        · exact h.rng _ (by simp [hr])
      · have h5 := List.pairwise_cons.1 h.sep
        refine List.pairwise_cons.2 ⟨fun s hs b hb => ?_, List.pairwise_cons.2 ⟨fun s hs b hb => hb.elim, h5.2⟩⟩
        rcases List.mem_cons.1 hs with rfl | hs
        · exact fun h => h.elim
        · exact h5.1 s hs b hb
    have h2 : Held M w0 (rVec E e S' A' c' (xs ++ ys) :: rs') w' := h1.mut2 e3 (rVec E e S' A' c' (xs ++ ys)) e2 (fun b hb => by
      rcases e4 b hb with q | q | q
      · exact .inl q
      · exact q.elim
      · exact .inr (.inr q))
    refine st_val hE hw ?_ rfl hn fun a' hE' => k A' c' S' a' w' hE' h2
    simp only [execOp, resolve, invoke, builtin, Sem.run_bind, Sem.run_pure, Result.andThen_ok, List.map_toArray, List.map_cons, List.map_nil, hE.ev hx1, hE.ev hx2, e1]

theorem tv_parts {P : Program} {t : TypeId} {z : Value} {n : Nat} (h : (P.info? t).map (fun i => (i.zero, i.size)) = some (some z, n)) : ∃ i, P.info? t = some i ∧ i.zero = some z ∧ i.size = n := by
  cases hi : P.info? t with
  | none => rw [hi] at h; cases h
  | some i =>
    rw [hi] at h
    simp only [Option.map_some, Option.some.injEq, Prod.mk.injEq] at h
    exact ⟨i, rfl, h.1, h.2⟩

theorem ts_parts {P : Program} {t : TypeId} {z : Value} {n b : Nat} (h : (P.info? t).map (fun i => (i.zero, i.size, i.bytes)) = some (some z, n, b)) : ∃ i, P.info? t = some i ∧ i.zero = some z ∧ i.size = n ∧ i.bytes = b := by
  cases hi : P.info? t with
  | none => rw [hi] at h; cases h
  | some i =>
    rw [hi] at h
    simp only [Option.map_some, Option.some.injEq, Prod.mk.injEq] at h
    exact ⟨i, rfl, h.1, h.2.1, h.2.2⟩

theorem so_rep {α : Type} {E : Enc α} {w : World} {g : Nat} {t : TypeId} {n : Nat} {v : Value} {x : α} (h1 : E.size = 1) (hO : ∀ W, E.O W Nob [v] x) (hB : Blk w g t (List.replicate n v).toArray) (hm : n ≤ maxLen) : So E w (fun b => b = g) (some ⟨g, 0, none⟩) n (List.replicate n x) :=
  ⟨by simp, hm, fun _ => ⟨g, 0, t, _, fun _ _ => False, rfl, rfl, hB, fun _ _ h => h.elim, fun _ _ _ h => h.elim, fun i y hy => by
    have hi := (List.getElem?_eq_some_iff.1 hy).1
    rw [List.length_replicate] at hi
    rw [List.getElem?_replicate_of_lt hi] at hy
    simp at hy; subst hy
    refine ⟨[v], E.omore (hO w) fun _ h => h.elim, fun j u hu => ?_⟩
    rcases j with _ | j
    · simp at hu; subst hu
      rw [h1]; simp [hi]
    · simp at hu⟩⟩

/-- make, of flat elements of one cell. -/
theorem st_make {P : Program} {ops : Array Oper} {Q : Exit → Act → World → Prop} {a : Act} {w : World} {K : Act → World → Prop} {n d : Nat} {L : List (Nat × Value)} {M : Nat → Prop} {w0 : World} {rs : List Res} {α : Type} {E : Enc α} {t e : TypeId} {by_ : Nat} {v : Value} {x : α} {y1 y2 : Operand} {k : Nat} {m m2 : Int} {ty : TypeId} {pos : String} {af : Array Edge} {gd : Option (Nat × Bool)} (hE : Env n L a) (hH : Held M w0 rs w) (ht : TSl P t e 1 by_) (hv : TV P e false [v]) (h1 : E.size = 1) (hO : ∀ W, E.O W Nob [v] x) (hy1 : ev L y1 = some (.int .i64 m)) (hy2 : ev L y2 = some (.int .i64 m2)) (hm : m = (k : Int)) (hm2 : m2 = (k : Int)) (hk : k * by_ ≤ 140737488355328) (hk1 : k ≤ 1000000000000) (hw : Region.wanted ⟨some d, .makeSlice t y1 y2, ty, pos, af, gd⟩ (yielded ops a.tmps) = true) (hn : Nat.blt d n = true)
    (kk : ∀ q a' w', Env n ((d, .slice (some ⟨q, 0, none⟩) (List.replicate k x).length k) :: L) a' → Held M w0 (rSo E (fun b => b = q) (some ⟨q, 0, none⟩) k (List.replicate k x) :: rs) w' → K a' w') : Stp P ops Q ⟨some d, .makeSlice t y1 y2, ty, pos, af, gd⟩ a w K := by
  obtain ⟨i, z, e1, e2, e3, e4, e5⟩ := ht.info
  obtain ⟨i', z', f1, f2, f3, f4⟩ := hv.info
  have hii : i' = i := by rw [e1] at f1; exact (Option.some.inj f1).symm
  subst hii
  have hzz : z' = z := by rw [e2] at f2; exact (Option.some.inj f2).symm
  subst hzz
  subst hm hm2
  have hmade : madeCells #[v] k = (List.replicate k v).toArray := by
    apply Array.ext
    · simp [madeCells]
    · intro j h1 h2
      have : j % 1 = 0 := Nat.mod_one j
      simp [madeCells, this]
  have hb1 : (i'.bytes : Int) * (k : Int) ≤ 281474976710656 := by
    have h : ((i'.bytes * k : Nat) : Int) ≤ 281474976710656 := by rw [e4, Nat.mul_comm]; omega
    rwa [Int.natCast_mul] at h
  have hr := run_make (P := P) w t e i' z' ht.under e1 e2 .i64 .i64 k k (by omega) (Int.le_refl _) hb1 (by omega)
  simp only [Int.toNat_natCast, e3, Nat.mul_one, f4] at hr
  have hrun : (execOp a.eval ⟨some d, .makeSlice t y1 y2, ty, pos, af, gd⟩).run P w = .ok (.value (.slice (some ⟨w.heap.size, 0, none⟩) k k)) (w.alloc (.cells (List.replicate k v).toArray e)) := by
    rw [← hmade]
    simp only [execOp, hE.ev hy1, hE.ev hy2, Sem.run_bind]
    rw [show ([v].toArray) = #[v] from rfl] at hr
    rw [hr]; rfl
  refine st_val hE hw hrun rfl hn fun a' hE' => ?_
  have hB := hH.alloc e (List.replicate k v)
  refine kk w.heap.size a' _ (by rw [List.length_replicate]; exact hE') ?_
  refine hB.turn _ (fun hb => ?_) fun _ hb => hb
  exact oSl (so_rep h1 hO hb (by unfold maxLen; omega))

theorem Env.castI {n t : Nat} {L : List (Nat × Value)} {a : Act} {q : IntKind} {x y : Int} (h : Env n L a) (hl : lk t L = some (.int q x)) (e : x = y) : Env n ((t, .int q y) :: L) a :=
  h.sub' fun s v hv => by
    simp only [lk] at hv
    by_cases hs : Nat.beq s t = true
    · rw [hs] at hv
      have hs' := Nat.eq_of_beq_eq_true hs
      subst hs' e
      simp at hv
      rw [hl, hv]
    · have hs' : Nat.beq s t = false := Bool.eq_false_iff.2 hs
      rw [hs'] at hv; exact hv

/-- A captured variable's cell, as a closure sees it. -/
theorem Held.capB {M : Nat → Prop} {w0 : World} {rs : List Res} {w W : World} {g : Nat} {t : TypeId} {cs : List Value} (h : Held M w0 rs w) (i : Nat) (hi : rs[i]? = some (rBlk g t cs)) (hb : Below w.heap.size w W) : ∀ j v, cs[j]? = some v → W.cell? ⟨g, 0 + j, none⟩ = some v := fun j v hv => by
  have hlt := (h.rng _ (List.mem_of_getElem? hi) g rfl).2
  rw [hb.cell (p := ⟨g, 0 + j, none⟩) hlt]
  exact c_blkN i hi w h j v hv

theorem Env.castS {n t m m' c : Nat} {A : Option Addr} {L : List (Nat × Value)} {a : Act} (h : Env n L a) (hl : lk t L = some (.slice A m c)) (e : m = m') : Env n ((t, .slice A m' c) :: L) a :=
  h.sub' fun s v hv => by
    simp only [lk] at hv
    by_cases hs : Nat.beq s t = true
    · rw [hs] at hv
      have hs' := Nat.eq_of_beq_eq_true hs
      subst hs' e
      simp at hv
      rw [hl, hv]
    · have hs' : Nat.beq s t = false := Bool.eq_false_iff.2 hs
      rw [hs'] at hv; exact hv

/-- What was there, outside M. -/
def Out (M : Nat → Prop) (w : World) (b : Nat) : Prop := b < w.heap.size ∧ ¬ M b

/-- The blocks of some parts. -/
def Foot (xs : List Res) (b : Nat) : Prop := ∃ r ∈ xs, r.S b

theorem Held.startM {w : World} {α : Type} {E : Enc α} {S : Nat → Prop} {cs : List Value} {x : α} (ho : E.O w S cs x) (hS : ∀ b, S b → b < w.heap.size) : Held S w [rO E S cs x] w :=
  ⟨Chg.refl _ _, (fun r hr => by simp at hr; subst hr; exact ho), (fun r hr b hb => by simp at hr; subst hr; exact ⟨.inl hb, hS b hb⟩), by simp⟩

theorem Held.focus {M0 : Nat → Prop} {w0 : World} {xs rs : List Res} {w : World} (h : Held M0 w0 (xs ++ rs) w) : Held (Foot xs) w xs w :=
  ⟨Chg.refl _ _, fun r hr => h.ok r (by simp [hr]), fun r hr b hb => ⟨.inl ⟨r, hr, hb⟩, (h.rng r (by simp [hr]) b hb).2⟩, (List.pairwise_append.1 h.sep).1⟩

theorem Held.back {M0 : Nat → Prop} {w0 : World} {xs ys rs : List Res} {w w' : World} (h : Held M0 w0 (xs ++ rs) w) (h' : Held (Foot xs) w ys w') : Held M0 w0 (ys ++ rs) w' where
  chg := by
    refine ⟨h'.chg.os.trans h.chg.os, h'.chg.tape.trans h.chg.tape, h'.chg.output.trans h.chg.output, Nat.le_trans h.chg.size h'.chg.size, fun k hk hM => ?_⟩
    refine (h'.chg.block k (Nat.lt_of_lt_of_le hk h.chg.size) ?_).trans (h.chg.block k hk hM)
    rintro ⟨r, hr, hb⟩
    rcases (h.rng r (by simp [hr]) k hb).1 with q | q
    · exact hM q
    · omega
  ok := by
    intro r hr
    rcases List.mem_append.1 hr with hr | hr
    · exact h'.ok r hr
    · refine r.loc w w' (fun b hb => h'.chg.block b (h.rng r (by simp [hr]) b hb).2 ?_) (h.ok r (by simp [hr]))
      rintro ⟨s, hs, hb'⟩
      exact (List.pairwise_append.1 h.sep).2.2 s hs r hr b hb' hb
  rng := by
    intro r hr b hb
    rcases List.mem_append.1 hr with hr | hr
    · obtain ⟨h1, h2⟩ := h'.rng r hr b hb
      refine ⟨?_, h2⟩
      rcases h1 with ⟨s, hs, hb'⟩ | h1
      · exact (h.rng s (by simp [hs]) b hb').1
      · exact .inr (Nat.le_trans h.size h1)
    · have h1 := h.rng r (by simp [hr]) b hb
      exact ⟨h1.1, Nat.lt_of_lt_of_le h1.2 h'.chg.size⟩
  sep := by
    refine List.pairwise_append.2 ⟨h'.sep, (List.pairwise_append.1 h.sep).2.1, fun r hr s hs b hb hb' => ?_⟩
    rcases (h'.rng r hr b hb).1 with ⟨q, hq, hb2⟩ | h1
    · exact (List.pairwise_append.1 h.sep).2.2 q hq s hs b hb2 hb'
    · have := (h.rng s (by simp [hs]) b hb').2; omega

theorem Held.oldM {M : Nat → Prop} {w0 : World} {rs : List Res} {w : World} {α : Type} {E : Enc α} {A : Option Addr} {c : Nat} {xs : List α} (h : Held M w0 rs w) (hs : Sl E w0 (Out M w0) A c xs) : Sl E w (Old w) A c xs :=
  (hs.keep (fun p hp => World.cell?_of_block (w := w0) (h.chg.block p.block hp.1 hp.2))).more fun b hb => Nat.lt_of_lt_of_le hb.1 h.chg.size

theorem Held.oldRM {M : Nat → Prop} {w0 : World} {rs : List Res} {w : World} {α : Type} {E : Enc α} {cs : List Value} {x : α} (h : Held M w0 rs w) (hs : E.R w0 (Out M w0) cs x) : E.R w (Old w) cs x :=
  E.more (E.keep hs (fun p hp => World.cell?_of_block (w := w0) (h.chg.block p.block hp.1 hp.2))) fun b hb => Nat.lt_of_lt_of_le hb.1 h.chg.size

/-- A borrowed slice, as a callee that rewrites xs sees it. -/
theorem Held.lend {w0 : World} {xs rs : List Res} {w : World} {α : Type} {E : Enc α} {A : Option Addr} {c : Nat} {zs : List α} (h : Held Nob w0 (xs ++ rs) w) (hs : Sl E w0 (Old w0) A c zs) : Sl E w (Out (Foot xs) w) A c zs :=
  (hs.keep (fun p hp => h.cell0 hp fun h => h)).more fun b hb => ⟨Nat.lt_of_lt_of_le hb h.size, by
    rintro ⟨r, hr, hb'⟩
    rcases (h.rng r (by simp [hr]) b hb').1 with q | q
    · exact q.elim
    · have : b < w0.heap.size := hb
      omega⟩

theorem Held.lendM {M : Nat → Prop} {w0 : World} {xs rs : List Res} {w : World} {α : Type} {E : Enc α} {A : Option Addr} {c : Nat} {zs : List α} (h : Held M w0 (xs ++ rs) w) (hs : Sl E w0 (Out M w0) A c zs) : Sl E w (Out (Foot xs) w) A c zs :=
  (hs.keep (fun p hp => h.cell0 hp.1 hp.2)).more fun b hb => ⟨Nat.lt_of_lt_of_le hb.1 h.size, by
    rintro ⟨r, hr, hb'⟩
    rcases (h.rng r (by simp [hr]) b hb').1 with q | q
    · exact hb.2 q
    · have : b < w0.heap.size := hb.1
      omega⟩

/-- A part that is owned, as a callee that rewrites other parts sees it. -/
theorem Held.lendR {M : Nat → Prop} {w0 : World} {xs rs : List Res} {w : World} {α : Type} {E : Enc α} {S : Nat → Prop} {cs : List Value} {x : α} (h : Held M w0 (xs ++ rs) w) {i : Nat} (hi : rs[i]? = some (rO E S cs x)) : E.R w (Out (Foot xs) w) cs x :=
  E.more (E.read (h.ok _ (List.mem_append_right _ (List.mem_of_getElem? hi)))) fun b hb => ⟨(h.rng _ (List.mem_append_right _ (List.mem_of_getElem? hi)) b hb).2, by
    rintro ⟨r, hr, hb'⟩
    exact (List.pairwise_append.1 h.sep).2.2 r hr _ (List.mem_of_getElem? hi) b hb' hb⟩

theorem Held.lendO {w0 : World} {xs rs : List Res} {w : World} {α : Type} {E : Enc α} {cs : List Value} {x : α} (h : Held Nob w0 (xs ++ rs) w) (hs : E.R w0 (Old w0) cs x) : E.R w (Out (Foot xs) w) cs x :=
  E.more (E.keep hs (fun p hp => h.cell0 hp fun h => h)) fun b hb => ⟨Nat.lt_of_lt_of_le hb h.size, by
    rintro ⟨r, hr, hb'⟩
    rcases (h.rng r (by simp [hr]) b hb').1 with q | q
    · exact q.elim
    · have : b < w0.heap.size := hb
      omega⟩

theorem Held.lendOM {M : Nat → Prop} {w0 : World} {xs rs : List Res} {w : World} {α : Type} {E : Enc α} {cs : List Value} {x : α} (h : Held M w0 (xs ++ rs) w) (hs : E.R w0 (Out M w0) cs x) : E.R w (Out (Foot xs) w) cs x :=
  E.more (E.keep hs (fun p hp => h.cell0 hp.1 hp.2)) fun b hb => ⟨Nat.lt_of_lt_of_le hb.1 h.size, by
    rintro ⟨r, hr, hb'⟩
    rcases (h.rng r (by simp [hr]) b hb').1 with q | q
    · exact hb.2 q
    · have : b < w0.heap.size := hb.1
      omega⟩

theorem Held.nfB {M : Nat → Prop} {w0 : World} {xs rs : List Res} {w : World} (h : Held M w0 (xs ++ rs) w) {i g : Nat} {t : TypeId} {cs : List Value} (hi : rs[i]? = some (rBlk g t cs)) : ¬ Foot xs g := by
  rintro ⟨r, hr, hb'⟩
  exact (List.pairwise_append.1 h.sep).2.2 r hr _ (List.mem_of_getElem? hi) g hb' rfl

theorem block_of_cell {w : World} {b o : Nat} {v : Value} (h : w.cell? ⟨b, o, none⟩ = some v) : b < w.heap.size := by
  rcases Nat.lt_or_ge b w.heap.size with h1 | h1
  · exact h1
  · exfalso
    unfold World.cell? at h
    simp [Array.getElem?_eq_none h1] at h

theorem Held.nfO {w0 : World} {xs rs : List Res} {w : World} (h : Held Nob w0 (xs ++ rs) w) {b o : Nat} {v : Value} (hc : w0.cell? ⟨b, o, none⟩ = some v) : ¬ Foot xs b := by
  rintro ⟨r, hr, hb'⟩
  rcases (h.rng r (by simp [hr]) b hb').1 with q | q
  · exact q.elim
  · have := block_of_cell hc
    omega

theorem Held.nfOM {M : Nat → Prop} {w0 : World} {xs rs : List Res} {w : World} (h : Held M w0 (xs ++ rs) w) {b o : Nat} {v : Value} (hM : ¬ M b) (hc : w0.cell? ⟨b, o, none⟩ = some v) : ¬ Foot xs b := by
  rintro ⟨r, hr, hb'⟩
  rcases (h.rng r (by simp [hr]) b hb').1 with q | q
  · exact hM q
  · have := block_of_cell hc
    omega

/-- The flat part in front given up. -/
theorem Held.unF {M : Nat → Prop} {w0 : World} {rs : List Res} {w : World} {α β : Type} {E : Enc α} {F : Enc β} {S : Nat → Prop} {v : Value} {cs : List Value} {x : α × β} (h1 : E.size = 1) (h : Held M w0 (rO (ePr E F) S (v :: cs) x :: rs) w) : Held M w0 (rO F S cs x.2 :: rs) w := by
  refine h.turn _ ?_ fun _ hb => hb
  rintro ⟨c1, c2, S1, S2, he, k1, k2, o1, o2⟩
  have hl := E.len (E.read o1)
  rw [h1] at hl
  obtain ⟨u, rfl⟩ := List.length_eq_one_iff.1 hl
  simp at he
  obtain ⟨_, rfl⟩ := he
  exact F.omore o2 k2

theorem Held.unP {M : Nat → Prop} {w0 : World} {rs : List Res} {w : World} {α β : Type} {E : Enc α} {F : Enc β} {S : Nat → Prop} {v : Value} {cs : List Value} {x : α × β} (h1 : E.size = 1) (h : Held M w0 (rO (ePr E F) S (v :: cs) x :: rs) w) : ∃ S1 S2, Held M w0 (rO E S1 [v] x.1 :: rO F S2 cs x.2 :: rs) w := by
  obtain ⟨c1, c2, S1, S2, he, k1, k2, o1, o2⟩ := h.ok _ (List.mem_cons_self)
  have hl := E.len (E.read o1)
  rw [h1] at hl
  obtain ⟨u, rfl⟩ := List.length_eq_one_iff.1 hl
  simp at he
  obtain ⟨rfl, rfl⟩ := he
  have hs := List.pairwise_cons.1 h.sep
  refine ⟨S1, S2, h.chg, ?_, ?_, ?_⟩
  · intro r hr
    simp only [List.mem_cons] at hr
    rcases hr with rfl | rfl | hr
    · exact o1
    · exact o2
    · exact h.ok r (by simp [hr])
  · intro r hr b hb
    simp only [List.mem_cons] at hr
    rcases hr with rfl | rfl | hr
    · exact h.rng _ (List.mem_cons_self) b (k1 b hb).1
    · exact h.rng _ (List.mem_cons_self) b (k2 b hb)
    · exact h.rng r (by simp [hr]) b hb
  · refine List.pairwise_cons.2 ⟨fun r hr b hb hb' => ?_, List.pairwise_cons.2 ⟨fun r hr b hb hb' => hs.1 r hr b (k2 b hb) hb', hs.2⟩⟩
    rcases List.mem_cons.1 hr with rfl | hr
    · exact (k1 b hb).2 hb'
    · exact hs.1 r hr b (k1 b hb).1 hb'

/-- An owned slice with one element laid open: its cells es; what the element owns (T) is held apart. -/
def Foc {α : Type} (E : Enc α) (w : World) (S : Nat → Prop) (b off c : Nat) (xs : List α) (k : Nat) (es : List Value) : Prop :=
  k < xs.length ∧ xs.length ≤ c ∧ c ≤ maxLen ∧ S b ∧ es.length = E.size ∧ ∃ (t : TypeId) (cur : Array Value) (T : Nat → Nat → Prop), Blk w b t cur ∧ (∀ i m, T i m → S m ∧ m ≠ b) ∧ (∀ i j m, T i m → T j m → i = j) ∧
    (∀ j v, es[j]? = some v → cur[off + k * E.size + j]? = some v) ∧ ∀ (i : Nat) (x : α), i ≠ k → xs[i]? = some x → ∃ us, E.O w (T i) us x ∧ ∀ j v, us[j]? = some v → cur[off + i * E.size + j]? = some v

theorem Foc.keep {α : Type} {E : Enc α} {w w' : World} {S : Nat → Prop} {b off c : Nat} {xs : List α} {k : Nat} {es : List Value} (h : Foc E w S b off c xs k es) (hk : ∀ b, S b → w'.heap[b]? = w.heap[b]?) : Foc E w' S b off c xs k es := by
  obtain ⟨h1, h2, h3, h4, h5, t, cur, T, hB, hT, hd, hc, hr⟩ := h
  refine ⟨h1, h2, h3, h4, h5, t, cur, T, (hk b h4).trans hB, hT, hd, hc, fun i x hi hx => ?_⟩
  obtain ⟨us, q1, q2⟩ := hr i x hi hx
  exact ⟨us, E.okeep q1 fun m hm => hk m (hT i m hm).1, q2⟩

def rFoc {α : Type} (E : Enc α) (S : Nat → Prop) (b off c : Nat) (xs : List α) (k : Nat) (es : List Value) : Res := ⟨S, fun w => Foc E w S b off c xs k es, fun _ _ h hf => hf.keep h⟩

theorem Held.open {M : Nat → Prop} {w0 : World} {rs : List Res} {w : World} {α : Type} {E : Enc α} {S : Nat → Prop} {A : Option Addr} {c : Nat} {xs : List α} (h : Held M w0 (rSo E S A c xs :: rs) w) {k : Nat} (hk : k < xs.length) :
    ∃ b off es T, A = some ⟨b, off, none⟩ ∧ E.R w (Old w) es xs[k] ∧ (∀ m, T m → S m ∧ m ≠ b) ∧ Held M w0 (rFoc E (fun m => S m ∧ ¬ T m) b off c xs k es :: rO E T es xs[k] :: rs) w := by
  have hso := so_of_o (h.ok _ (List.mem_cons_self))
  have hrng := h.rng _ (List.mem_cons_self)
  obtain ⟨b, off, t, cur, T, hA, hb, hB, hT, hd, hc⟩ := hso.2.2 (by intro e; subst e; simp at hk)
  obtain ⟨es, h1, h2⟩ := hc k xs[k] (List.getElem?_eq_getElem hk)
  have hs := List.pairwise_cons.1 h.sep
  refine ⟨b, off, es, T k, hA, E.more (E.read h1) (fun m hm => (hrng m (hT k m hm).1).2), fun m hm => hT k m hm, h.chg, ?_, ?_, ?_⟩
  · intro r hr
    simp only [List.mem_cons] at hr
    rcases hr with rfl | rfl | hr
    · refine ⟨hk, hso.1, hso.2.1, ⟨hb, fun hm => (hT k b hm).2 rfl⟩, E.len (E.read h1), t, cur, fun i m => i ≠ k ∧ T i m, hB, fun i m hm => ⟨⟨(hT i m hm.2).1, fun hm' => hm.1 (hd i k m hm.2 hm')⟩, (hT i m hm.2).2⟩, fun i j m h3 h4 => hd i j m h3.2 h4.2, h2, fun i x hi hx => ?_⟩
      obtain ⟨us, q1, q2⟩ := hc i x hx
      exact ⟨us, E.omore q1 fun m hm => ⟨hi, hm⟩, q2⟩
    · exact h1
    · exact h.ok r (by simp [hr])
  · intro r hr m hm
    simp only [List.mem_cons] at hr
    rcases hr with rfl | rfl | hr
    · exact hrng m hm.1
    · exact hrng m (hT k m hm).1
    · exact h.rng r (by simp [hr]) m hm
  · refine List.pairwise_cons.2 ⟨fun r hr m hm hm' => ?_, List.pairwise_cons.2 ⟨fun r hr m hm hm' => hs.1 r hr m (hT k m hm).1 hm', hs.2⟩⟩
    rcases List.mem_cons.1 hr with rfl | hr
    · exact hm.2 hm'
    · exact hs.1 r hr m hm.1 hm'

theorem Held.shut {M : Nat → Prop} {w0 : World} {rs : List Res} {w : World} {α : Type} {E : Enc α} {S T : Nat → Prop} {b off c k : Nat} {xs : List α} {es : List Value} {y : α} (h : Held M w0 (rFoc E S b off c xs k es :: rO E T es y :: rs) w) : Held M w0 (rSo E (fun m => S m ∨ T m) (some ⟨b, off, none⟩) c (xs.set k y) :: rs) w := by
  refine h.join _ (fun hf ho hd => ?_) fun _ hb => hb
  obtain ⟨h1, h2, h3, h4, h5, t, cur, T', hB, hT, hd', hc, hr⟩ := hf
  refine oSl ⟨by rw [List.length_set]; exact h2, h3, fun _ => ⟨b, off, t, cur, fun i m => (i = k ∧ T m) ∨ (i ≠ k ∧ T' i m), rfl, .inl h4, hB, ?_, ?_, fun i x hx => ?_⟩⟩
  · rintro i m (⟨_, hm⟩ | ⟨_, hm⟩)
    · exact ⟨.inr hm, fun e => hd b h4 (e ▸ hm)⟩
    · exact ⟨.inl (hT i m hm).1, (hT i m hm).2⟩
  · rintro i j m (⟨hi, hm⟩ | ⟨hi, hm⟩) (⟨hj, hm'⟩ | ⟨hj, hm'⟩)
    · rw [hi, hj]
    · exact absurd hm (hd m (hT j m hm').1)
    · exact absurd hm' (hd m (hT i m hm).1)
    · exact hd' i j m hm hm'
  · by_cases e : i = k
    · subst e
      rw [List.getElem?_set_self h1] at hx
      simp at hx; subst hx
      exact ⟨es, E.omore ho fun m hm => .inl ⟨rfl, hm⟩, hc⟩
    · rw [List.getElem?_set_ne (fun h => e h.symm)] at hx
      obtain ⟨us, q1, q2⟩ := hr i x e hx
      exact ⟨us, E.omore q1 fun m hm => .inr ⟨e, hm⟩, q2⟩

theorem c_foc {M : Nat → Prop} {w0 : World} {rs : List Res} {α : Type} {E : Enc α} {S : Nat → Prop} {b off c k : Nat} {xs : List α} {es : List Value} {j : Nat} {v : Value} (i : Nat) (hi : rs[i]? = some (rFoc E S b off c xs k es)) (hv : es[j]? = some v) : ∀ w, Held M w0 rs w → w.cell? ⟨b, off + k * E.size + j, none⟩ = some v := fun w h => by
  obtain ⟨h1, h2, h3, h4, h5, t, cur, T, hB, hT, hd, hc, hr⟩ := h.get hi
  rw [hB.cell]; exact hc j v hv

/-- A store into a cell of the element that is laid open. -/
theorem st_storeF {P : Program} {ops : Array Oper} {Q : Exit → Act → World → Prop} {a : Act} {w : World} {K : Act → World → Prop} {n : Nat} {L : List (Nat × Value)} {M : Nat → Prop} {w0 : World} {rs : List Res} {α : Type} {E : Enc α} {t : TypeId} {z0 : Value} {x y : Operand} {S : Nat → Prop} {b off c k j o : Nat} {xs : List α} {es : List Value} {v : Value} {ty : TypeId} {pos : String} {af : Array Edge} {gd : Option (Nat × Bool)} (i : Nat) (hE : Env n L a) (hH : Held M w0 rs w) (ht : TV P t false [z0]) (hx : ev L x = some (.pointer (some ⟨b, o, none⟩))) (ho : o = off + k * E.size + j) (hy : ev L y = some v) (hv : v.oneCell' = true) (hi : rs[i]? = some (rFoc E S b off c xs k es)) (hj : Nat.blt j es.length = true) (hw : Region.wanted ⟨none, .store t x y, ty, pos, af, gd⟩ (yielded ops a.tmps) = true)
    (kk : ∀ w', Held M w0 (rs.set i (rFoc E S b off c xs k (es.set j v))) w' → K a w') : Stp P ops Q ⟨none, .store t x y, ty, pos, af, gd⟩ a w K := by
  have hj' : j < es.length := by simpa [Nat.blt_eq] using hj
  have hf : Foc E w S b off c xs k es := hH.get hi
  subst ho
  obtain ⟨h1, h2, h3, h4, h5, tt, cur, T, hB, hT, hd, hc, hr⟩ := hf
  have hcell : w.cell? ⟨b, off + k * E.size + j, none⟩ = some es[j] := by rw [hB.cell]; exact hc j _ (List.getElem?_eq_getElem hj')
  have hfz : w.frozen? ⟨b, off + k * E.size + j, none⟩ = false := hB.frozen _
  have hlt : off + k * E.size + j < cur.size := lt_of_get (hc j _ (List.getElem?_eq_getElem hj'))
  have hnew : Foc E (w.setCell ⟨b, off + k * E.size + j, none⟩ v) S b off c xs k (es.set j v) := by
    refine ⟨h1, h2, h3, h4, by simpa using h5, tt, _, T, hB.set _ v, hT, hd, fun j' u hu => ?_, fun i' y' hi' hx' => ?_⟩
    · by_cases e : j' = j
      · subst e
        rw [List.getElem?_set_self hj'] at hu
        rw [Array.getElem?_setIfInBounds_self_of_lt hlt]; exact hu
      · rw [List.getElem?_set_ne (fun h => e h.symm)] at hu
        rw [Array.getElem?_setIfInBounds_ne (by omega)]; exact hc j' u hu
    · obtain ⟨us, q1, q2⟩ := hr i' y' hi' hx'
      refine ⟨us, E.okeep q1 fun m hm => Below.heap_setCell _ _ _ _ (hT i' m hm).2, fun j' u hu => ?_⟩
      have hju := (List.getElem?_eq_some_iff.1 hu).1
      have hlu := E.len (E.read q1)
      rw [Array.getElem?_setIfInBounds_ne]
      · exact q2 j' u hu
      · rcases Nat.lt_or_gt_of_ne hi' with hlt' | hlt'
        · have : (i' + 1) * E.size ≤ k * E.size := Nat.mul_le_mul_right _ (by omega)
          rw [Nat.succ_mul] at this; omega
        · have : (k + 1) * E.size ≤ i' * E.size := Nat.mul_le_mul_right _ (by omega)
          rw [Nat.succ_mul] at this; omega
  have h6 : Held M w0 (rs.set i (rFoc E S b off c xs k (es.set j v))) (w.setCell ⟨b, off + k * E.size + j, none⟩ v) := hH.mut hi ((Chg.refl _ _).set (by exact h4) _) (rFoc E S b off c xs k (es.set j v)) hnew fun b hb => .inl hb
  refine st_skip hw ?_ rfl (kk _ h6)
  obtain ⟨ii, z, e1, _, e3, _⟩ := ht.info
  simp only [execOp, hE.ev hx, hE.ev hy, Instr.storeAt, Instr.sureAddr, storeVar, sizeOf, typeInfo, Sem.run_bind, Sem.run_pure, Result.andThen_ok, run_program, e1]
  have e3' : ii.size = 1 := e3
  have hs : (Go.store ⟨b, off + k * E.size + j, none⟩ v).run P w = .ok () (w.setCell ⟨b, off + k * E.size + j, none⟩ v) := by
    cases v <;> first | (simp [Value.oneCell'] at hv; done) | simp [Go.store, Sem.run, hcell, hfz]
  simp [one_cells hv, e3', storeCells, add_none, hs]

theorem c_ownV {M : Nat → Prop} {w0 : World} {rs : List Res} {S : Nat → Prop} {b off c k : Nat} {xs : List Int} {y : Int} (i : Nat) (hi : rs[i]? = some (rSo eInt S (some ⟨b, off, none⟩) c xs)) (hk : k < xs.length) (hy : xs[k] = y) : ∀ w, Held M w0 rs w → w.cell? ⟨b, off + k * 1, none⟩ = some (.int .i64 y) := fun w h => by
  rw [← hy]; exact c_ownI i hi hk w h

theorem c_ownB {M : Nat → Prop} {w0 : World} {rs : List Res} {S : Nat → Prop} {b off c k : Nat} {xs : List Bool} (i : Nat) (hi : rs[i]? = some (rSo eBool S (some ⟨b, off, none⟩) c xs)) (hk : k < xs.length) : ∀ w, Held M w0 rs w → w.cell? ⟨b, off + k * 1, none⟩ = some (.bool xs[k]) := fun w h => by
  obtain ⟨b', off', es, hA, _, hR, hc⟩ := (h.sl hi).at1 rfl hk
  simp only [Option.some.injEq, Addr.mk.injEq, and_true] at hA
  obtain ⟨rfl, rfl⟩ := hA
  obtain rfl := hR
  rw [Nat.mul_one]; exact hc _ rfl

theorem c_ownBV {M : Nat → Prop} {w0 : World} {rs : List Res} {S : Nat → Prop} {b off c k : Nat} {xs : List Bool} {y : Bool} (i : Nat) (hi : rs[i]? = some (rSo eBool S (some ⟨b, off, none⟩) c xs)) (hk : k < xs.length) (hy : xs[k] = y) : ∀ w, Held M w0 rs w → w.cell? ⟨b, off + k * 1, none⟩ = some (.bool y) := fun w h => by
  rw [← hy]; exact c_ownB i hi hk w h

theorem Held.relen {M : Nat → Prop} {w0 : World} {rs : List Res} {w : World} {α : Type} {E : Enc α} {S : Nat → Prop} {A : Option Addr} {c n : Nat} {xs : List α} (h : Held M w0 (rSo E S A c xs :: rs) w) (hn : xs.length = n) : Held M w0 (rO (eSl E) S [.slice A n c] xs :: rs) w := hn ▸ h

theorem Held.lt {M : Nat → Prop} {w0 : World} {rs : List Res} {w : World} (h : Held M w0 rs w) {i : Nat} {r : Res} (hi : rs[i]? = some r) : ∀ b, r.S b → b < w.heap.size := fun b hb => (h.rng r (List.mem_of_getElem? hi) b hb).2

/-- What a callee made, beside what is held. -/
theorem Held.app {M : Nat → Prop} {w0 : World} {rs qs : List Res} {w w' : World} (h : Held M w0 rs w) (h' : Held Nob w qs w') : Held M w0 (qs ++ rs) w' where
  chg := (h.on h'.below).chg
  ok := by
    intro r hr
    rcases List.mem_append.1 hr with hr | hr
    · exact h'.ok r hr
    · exact (h.on h'.below).ok r hr
  rng := by
    intro r hr b hb
    rcases List.mem_append.1 hr with hr | hr
    · have h1 := h'.rng r hr b hb
      exact ⟨.inr (Nat.le_trans h.size (h1.1.resolve_left fun q => q.elim)), h1.2⟩
    · exact (h.on h'.below).rng r hr b hb
  sep := by
    refine List.pairwise_append.2 ⟨h'.sep, h.sep, fun r hr s hs b hb hb' => ?_⟩
    have h1 := (h'.rng r hr b hb).1.resolve_left fun q => q.elim
    have h2 := (h.rng s hs b hb').2
    omega

/-- Held only if p holds. -/
def rIf (p : Prop) (r : Res) : Res := ⟨r.S, fun w => p → r.φ w, fun w w' h hp hq => r.loc w w' h (hp hq)⟩

theorem Held.toIf {M : Nat → Prop} {w0 : World} {rs : List Res} {r : Res} {w : World} (h : Held M w0 (r :: rs) w) (p : Prop) : Held M w0 (rIf p r :: rs) w :=
  h.turn (rIf p r) (fun hr _ => hr) fun _ h => h

theorem Held.ofIf {M : Nat → Prop} {w0 : World} {rs : List Res} {r : Res} {w : World} {p : Prop} (h : Held M w0 (rIf p r :: rs) w) (hp : p) : Held M w0 (r :: rs) w :=
  h.turn r (fun hr => hr hp) fun _ h => h

theorem Held.noIf {M : Nat → Prop} {w0 : World} {rs : List Res} {w : World} {p : Prop} (h : Held M w0 rs w) {α : Type} {E : Enc α} {A : Option Addr} {c : Nat} {xs : List α} (r : Res) (hp : ¬ p) (hr : r = rSo E Nob A c xs := by rfl) : Held M w0 (rIf p r :: rs) w := by
  subst hr
  exact h.new (Below.refl _ _) (rIf p (rSo E Nob A c xs)) (fun hq => absurd hq hp) fun _ h => h.elim

theorem tv_2 : TV Try.prog 2 false [.int .i64 0] := by
  obtain ⟨i, h1, h2, h3⟩ := tv_parts (show (Try.prog.info? 2).map (fun i => (i.zero, i.size)) = some (some (.int .i64 0), 1) from by kernel_rfl)
  exact ⟨⟨_, Try.underlying2, rfl⟩, i, _, h1, h2, h3, rfl⟩

theorem tv_4 : TV Try.prog 4 false [.bool false] := by
  obtain ⟨i, h1, h2, h3⟩ := tv_parts (show (Try.prog.info? 4).map (fun i => (i.zero, i.size)) = some (some (.bool false), 1) from by kernel_rfl)
  exact ⟨⟨_, Try.underlying4, rfl⟩, i, _, h1, h2, h3, rfl⟩

theorem ts_24 : TSl Try.prog 24 116 4 32 := by
  obtain ⟨i, h1, h2, h3, h4⟩ := ts_parts (show (Try.prog.info? 116).map (fun i => (i.zero, i.size, i.bytes)) = some (some (.agg #[.int .i64 0, .int .i64 0, .int .i64 0, .int .i64 0]), 4, 32) from by kernel_rfl)
  exact ⟨Try.underlying24, i, _, h1, h2, h3, h4, rfl⟩

theorem ts_31 : TSl Try.prog 31 2 1 8 := by
  obtain ⟨i, h1, h2, h3, h4⟩ := ts_parts (show (Try.prog.info? 2).map (fun i => (i.zero, i.size, i.bytes)) = some (some (.int .i64 0), 1, 8) from by kernel_rfl)
  exact ⟨Try.underlying31, i, _, h1, h2, h3, h4, rfl⟩

theorem fa_116_1 : ∀ b o w, (Instr.fieldAt 116 (.pointer (some ⟨b, o, none⟩)) 1).run Try.prog w = .ok (.pointer (some ⟨b, o + 1, none⟩)) w := by
  obtain ⟨i, z, h1, _, h3, _⟩ := tv_2.info
  exact fun b o w => fieldAt_of (f := 1) Try.underlying116 rfl h1 (by rw [h3]; decide) b o w

theorem ts_207 : TSl Try.prog 207 4 1 1 := by
  obtain ⟨i, h1, h2, h3, h4⟩ := ts_parts (show (Try.prog.info? 4).map (fun i => (i.zero, i.size, i.bytes)) = some (some (.bool false), 1, 1) from by kernel_rfl)
  exact ⟨Try.underlying207, i, _, h1, h2, h3, h4, rfl⟩

theorem en_15 : ∀ args w, (callFunc 15 args).run Try.prog w = .ok (.enter 15 args) w := enters_of Try.func15 (by kernel_rfl) rfl

theorem en_17 : ∀ args w, (callFunc 17 args).run Try.prog w = .ok (.enter 17 args) w := enters_of Try.func17 (by kernel_rfl) rfl

theorem en_19 : ∀ args w, (callFunc 19 args).run Try.prog w = .ok (.enter 19 args) w := enters_of Try.func19 (by kernel_rfl) rfl

theorem en_20 : ∀ args w, (callFunc 20 args).run Try.prog w = .ok (.enter 20 args) w := enters_of Try.func20 (by kernel_rfl) rfl

theorem en_21 : ∀ args w, (callFunc 21 args).run Try.prog w = .ok (.enter 21 args) w := enters_of Try.func21 (by kernel_rfl) rfl

theorem en_24 : ∀ args w, (callFunc 24 args).run Try.prog w = .ok (.enter 24 args) w := enters_of Try.func24 (by kernel_rfl) rfl

theorem en_25 : ∀ args w, (callFunc 25 args).run Try.prog w = .ok (.enter 25 args) w := enters_of Try.func25 (by kernel_rfl) rfl

theorem en_48 : ∀ args w, (callFunc 48 args).run Try.prog w = .ok (.enter 48 args) w := enters_of Try.func48 (by kernel_rfl) rfl

theorem en_74 : ∀ args w, (callFunc 74 args).run Try.prog w = .ok (.enter 74 args) w := enters_of Try.func74 (by kernel_rfl) rfl

theorem en_75 : ∀ args w, (callFunc 75 args).run Try.prog w = .ok (.enter 75 args) w := enters_of Try.func75 (by kernel_rfl) rfl

theorem en_81 : ∀ args w, (callFunc 81 args).run Try.prog w = .ok (.enter 81 args) w := enters_of Try.func81 (by kernel_rfl) rfl

theorem en_85 : ∀ args w, (callFunc 85 args).run Try.prog w = .ok (.enter 85 args) w := enters_of Try.func85 (by kernel_rfl) rfl

theorem en_108 : ∀ args w, (callFunc 108 args).run Try.prog w = .ok (.enter 108 args) w := enters_of Try.func108 (by kernel_rfl) rfl

theorem en_152 : ∀ args w, (callFunc 152 args).run Try.prog w = .ok (.enter 152 args) w := enters_of Try.func152 (by kernel_rfl) rfl

theorem en_156 : ∀ args w, (callFunc 156 args).run Try.prog w = .ok (.enter 156 args) w := enters_of Try.func156 (by kernel_rfl) rfl

theorem en_158 : ∀ args w, (callFunc 158 args).run Try.prog w = .ok (.enter 158 args) w := enters_of Try.func158 (by kernel_rfl) rfl

theorem en_159 : ∀ args w, (callFunc 159 args).run Try.prog w = .ok (.enter 159 args) w := enters_of Try.func159 (by kernel_rfl) rfl

theorem en_160 : ∀ args w, (callFunc 160 args).run Try.prog w = .ok (.enter 160 args) w := enters_of Try.func160 (by kernel_rfl) rfl

theorem en_221 : ∀ args w, (callFunc 221 args).run Try.prog w = .ok (.enter 221 args) w := enters_of Try.func221 (by kernel_rfl) rfl

theorem en_222 : ∀ args w, (callFunc 222 args).run Try.prog w = .ok (.enter 222 args) w := enters_of Try.func222 (by kernel_rfl) rfl

theorem elem_Int64 : Elem Try.prog eInt 31 2 8 := by
  obtain ⟨i0, hi0, hz0, hz1, hz2⟩ := info_parts info_impl_Int64
  exact ⟨Try.underlying31, i0, _, hi0, hz0, hz1, hz2, rfl⟩

set_option maxHeartbeats 400000 in
theorem Clone_Int64 (A : Option Addr) (c : Nat) (xs : List Int) (w : World) (h : Sl eInt w (Old w) A c xs) (hsm : xs.length ≤ 1000000000000) :
    Calls Try.prog 152 #[.slice A xs.length c] w fun e w' => ∃ A' c', e = .returned (.slice A' xs.length c') ∧ So eInt w' (Fr w w') A' c' xs ∧ Below w.heap.size w w' := by
  have q22 : ∀ (w : World) (a : Option Addr) (n c n' c' : Nat), (binOp .eql 31 (.slice a n c) (.slice none n' c')).run Try.prog w = .ok (.bool a.isNone) w := fun w a n c n' c' => Lib.run_eql_slice_nil w _ _ a n c n' c' Try.underlying31
  cases A with
  | none =>
    have hx : xs = [] := Classical.byContradiction fun hn => by
      obtain ⟨b, off, hA, _⟩ := h.2.2 hn
      cases hA
    subst hx
    clear h
    go_enter Try.func152, Try.ntmps152
    go_wp2
    go_ret
    exact ⟨none, 0, rfl, So.nil (Nat.zero_le _), Below.refl _ _⟩
  | some ad =>
    have H := Lib.hid (h.on (below_alloc (Below.refl _ _) (.cells #[] 2))); clear h
    go_enter Try.func152, Try.ntmps152
    go_wp2_with (at_builtin; refine wpList_append_row flat_int elem_Int64 rfl _ _ rfl (base := w.heap.size) rfl (Row.empty (Nat.le_refl _)) rfl H.out (by simp only [List.length_nil]; unfold maxLen; omega) (by simp only [List.length_nil]; omega) (by simp) ?_)
    intro v' w1 hrow hgrow hat
    try rw [List.nil_append] at hrow
    obtain ⟨A', c', rfl, hso⟩ := hrow.so
    have HO := Lib.hid hso
    have HL : Hid (Below w.heap.size w w1) := ((Below.refl _ w).alloc (Nat.le_refl _) _).grown hgrow (by simp) (by intro k hk; simp [Value.ownBlock] at hk; omega)
    clear hrow hgrow hat hso
    go_wp2
    go_ret
    exact ⟨A', c', rfl, HO.out, HL.out⟩

def encInstr (x : tInstr) : List Value := [.int .i64 x.1, .int .i64 x.2.1, .int .i64 x.2.2.1, .int .i64 x.2.2.2]

theorem flat_Instr : Flat eInstr encInstr :=
  ⟨fun h => by
    obtain ⟨rfl, h0, h1, h2, h3⟩ := shape_Instr h
    exact ⟨rfl, fun _ => (oPrI h0 (oPrI h1 (oPrI h2 (oI h3))))⟩, fun x u hu => by
    simp only [encInstr, List.mem_cons, List.not_mem_nil, or_false] at hu
    rcases hu with rfl | rfl | rfl | rfl <;> rfl⟩

theorem elem_Instr : Elem Try.prog eInstr 24 116 32 := by
  obtain ⟨i0, hi0, hz0, hz1, hz2⟩ := info_parts info_impl_Instr
  exact ⟨Try.underlying24, i0, _, hi0, hz0, hz1, hz2, rfl⟩

set_option maxHeartbeats 400000 in
theorem Clone_Instr (A : Option Addr) (c : Nat) (xs : List tInstr) (w : World) (h : Sl eInstr w (Old w) A c xs) (hsm : xs.length ≤ 1000000000000) :
    Calls Try.prog 160 #[.slice A xs.length c] w fun e w' => ∃ A' c', e = .returned (.slice A' xs.length c') ∧ So eInstr w' (Fr w w') A' c' xs ∧ Below w.heap.size w w' := by
  have q22 : ∀ (w : World) (a : Option Addr) (n c n' c' : Nat), (binOp .eql 24 (.slice a n c) (.slice none n' c')).run Try.prog w = .ok (.bool a.isNone) w := fun w a n c n' c' => Lib.run_eql_slice_nil w _ _ a n c n' c' Try.underlying24
  cases A with
  | none =>
    have hx : xs = [] := Classical.byContradiction fun hn => by
      obtain ⟨b, off, hA, _⟩ := h.2.2 hn
      cases hA
    subst hx
    clear h
    go_enter Try.func160, Try.ntmps160
    go_wp2
    go_ret
    exact ⟨none, 0, rfl, So.nil (Nat.zero_le _), Below.refl _ _⟩
  | some ad =>
    have H := Lib.hid (h.on (below_alloc (Below.refl _ _) (.cells #[] 116))); clear h
    go_enter Try.func160, Try.ntmps160
    go_wp2_with (at_builtin; refine wpList_append_row flat_Instr elem_Instr rfl _ _ rfl (base := w.heap.size) rfl (Row.empty (Nat.le_refl _)) rfl H.out (by simp only [List.length_nil]; unfold maxLen; omega) (by simp only [List.length_nil]; omega) (by simp) ?_)
    intro v' w1 hrow hgrow hat
    try rw [List.nil_append] at hrow
    obtain ⟨A', c', rfl, hso⟩ := hrow.so
    have HO := Lib.hid hso
    have HL : Hid (Below w.heap.size w w1) := ((Below.refl _ w).alloc (Nat.le_refl _) _).grown hgrow (by simp) (by intro k hk; simp [Value.ownBlock] at hk; omega)
    clear hrow hgrow hat hso
    go_wp2
    go_ret
    exact ⟨A', c', rfl, HO.out, HL.out⟩

def isReg (r : Int) : Bool := withinB r 0 23

def validInstr (x : tInstr) (n : Int) : Bool :=
  isReg x.2.1 && withinB x.2.2.1 0 n && (if x.1 = 0 then x.2.2.2 == 0 else if x.1 = 1 then withinB x.2.2.2 0 n else false)

theorem impl_isRegister (r : Int) (w : World) : Calls Try.prog 226 #[.int .i64 r] w fun e w' => e = .returned (.bool (isReg r)) ∧ w = w' := by
  unfold isReg
  go_enter Try.func226, Try.ntmps226
  go_wp2_with (go_at_call 112; refine (impl_within _ _ _ _).mono ?_; rintro e w' ⟨rfl, rfl⟩)
  go_ret
  exact ⟨rfl, rfl⟩

theorem spec_l07Register (r : Int) (w : World) : Calls Try.prog 170 #[.int .i64 r] w fun e w' => e = .returned (.bool (isReg r)) ∧ w = w' := by
  unfold isReg
  go_enter Try.func170, Try.ntmps170
  go_wp2_with (go_at_call 108; refine (spec_l00In _ _ _ _).mono ?_; rintro e w' ⟨rfl, rfl⟩)
  go_ret
  exact ⟨rfl, rfl⟩

set_option maxHeartbeats 400000 in
theorem impl_validInstr (x : tInstr) (n : Int) (w : World) :
    Calls Try.prog 174 #[.agg #[.int .i64 x.1, .int .i64 x.2.1, .int .i64 x.2.2.1, .int .i64 x.2.2.2], .int .i64 n] w fun e w' => e = .returned (.bool (validInstr x n)) ∧ Below w.heap.size w w' := by
  obtain ⟨kd, r, t, el⟩ := x
  cases h1 : isReg r
  · rw [show validInstr (kd, r, t, el) n = false from by unfold validInstr; simp [h1]]
    go_enter Try.func174, Try.ntmps174
    go_wp2_with (first | (go_at_call 226; refine (impl_isRegister _ _).mono ?_; rintro e w' ⟨rfl, rfl⟩; rw [h1]) | (go_at_call 112; refine (impl_within _ _ _ _).mono ?_; rintro e w' ⟨rfl, rfl⟩; (try rw [h2])))
    go_ret
    exact ⟨rfl, by go_grown⟩
  cases h2 : withinB t 0 n
  · rw [show validInstr (kd, r, t, el) n = false from by unfold validInstr; simp [h1, h2]]
    go_enter Try.func174, Try.ntmps174
    go_wp2_with (first | (go_at_call 226; refine (impl_isRegister _ _).mono ?_; rintro e w' ⟨rfl, rfl⟩; rw [h1]) | (go_at_call 112; refine (impl_within _ _ _ _).mono ?_; rintro e w' ⟨rfl, rfl⟩; (try rw [h2])))
    go_ret
    exact ⟨rfl, by go_grown⟩
  by_cases k0 : kd = 0
  · have k0' : (kd == 0) = true := by simp [k0]
    rw [show validInstr (kd, r, t, el) n = (el == 0) from by unfold validInstr; simp [h1, h2, k0]]
    go_enter Try.func174, Try.ntmps174
    go_wp2_with (first | (go_at_call 226; refine (impl_isRegister _ _).mono ?_; rintro e w' ⟨rfl, rfl⟩; rw [h1]) | (go_at_call 112; refine (impl_within _ _ _ _).mono ?_; rintro e w' ⟨rfl, rfl⟩; (try rw [h2])))
    go_ret
    exact ⟨rfl, by go_grown⟩
  have k0' : (kd == 0) = false := by simp [k0]
  by_cases k1 : kd = 1
  · have k1' : (kd == 1) = true := by simp [k1]
    rw [show validInstr (kd, r, t, el) n = withinB el 0 n from by unfold validInstr; simp [h1, h2, k1]]
    go_enter Try.func174, Try.ntmps174
    go_wp2_with (first | (go_at_call 226; refine (impl_isRegister _ _).mono ?_; rintro e w' ⟨rfl, rfl⟩; rw [h1]) | (go_at_call 112; refine (impl_within _ _ _ _).mono ?_; rintro e w' ⟨rfl, rfl⟩; (try rw [h2])))
    go_ret
    exact ⟨rfl, by go_grown⟩
  have k1' : (kd == 1) = false := by simp [k1]
  rw [show validInstr (kd, r, t, el) n = false from by unfold validInstr; simp [h1, h2, k0, k1]]
  go_enter Try.func174, Try.ntmps174
  go_wp2_with (first | (go_at_call 226; refine (impl_isRegister _ _).mono ?_; rintro e w' ⟨rfl, rfl⟩; rw [h1]) | (go_at_call 112; refine (impl_within _ _ _ _).mono ?_; rintro e w' ⟨rfl, rfl⟩; (try rw [h2])))
  go_ret
  exact ⟨rfl, by go_grown⟩

theorem enters_ValidProgram1 : ∀ args w, (callFunc 173 args).run Try.prog w = .ok (.enter 173 args) w := enters_of Try.func173 (by kernel_rfl) rfl

theorem impl_ValidProgram1 (es : List Value) (x : tInstr) (w : World) (h : eInstr.R w (Old w) es x) (B : Nat) (A : Option Addr) (n c : Nat) (hB : w.cell? ⟨B, 0, none⟩ = some (.slice A n c)) :
    Calls Try.prog 173 #[.agg es.toArray, .pointer (some ⟨B, 0, none⟩)] w fun e w' => e = .returned (.bool (!validInstr x n)) ∧ Below w.heap.size w w' := by
  obtain ⟨rfl, _, _, _, _⟩ := shape_Instr h
  clear h
  have hlt : B < w.heap.size := World.block_lt_of_cell? w _ hB
  go_enter Try.func173, Try.ntmps173
  go_wp2_with fail
  go_region_held3 (fun w' => w'.cell? ⟨w.heap.size, 0, none⟩ = some (.int .i64 x.1) ∧ w'.cell? ⟨w.heap.size, 1, none⟩ = some (.int .i64 x.2.1) ∧ w'.cell? ⟨w.heap.size, 2, none⟩ = some (.int .i64 x.2.2.1) ∧ w'.cell? ⟨w.heap.size, 3, none⟩ = some (.int .i64 x.2.2.2) ∧ w'.cell? ⟨B, 0, none⟩ = some (.slice A n c)) (first | (simp [go_sem, World.cell?_alloc_past, hB, hlt]; done) | (obtain ⟨hc, hf⟩ := bcell hb; simp [hc, go_sem, World.cell?_alloc_past, hB, hlt, Nat.lt_succ_of_lt hlt]))
    (first
      | (go_at_call 91; refine (impl_size_Instr _ _ _ _).mono ?_; rintro e w' ⟨rfl, rfl⟩)
      | (go_at_call 174; refine (impl_validInstr x _ _).mono ?_; rintro e w' ⟨rfl, hb⟩))
  go_wp2
  go_ret
  exact ⟨rfl, below_trans ((Below.refl _ _).alloc (Nat.le_refl _) _).drew hb⟩

def validProg (p : List tInstr) : Bool := decide (p.length ≤ 400) && !p.any fun x => !validInstr x p.length

set_option maxHeartbeats 400000 in
theorem impl_ValidProgram (A : Option Addr) (c : Nat) (xs : List tInstr) (w : World) (h : Sl eInstr w (Old w) A c xs) :
    Calls Try.prog 85 #[.slice A xs.length c] w fun e w' => e = .returned (.bool (validProg xs)) ∧ Below w.heap.size w w' := by
  have hW : Below w.heap.size w (w.alloc (.cells #[.slice A xs.length c] 24)) := (Below.refl _ _).alloc (Nat.le_refl _) _
  have hI := Lib.hid (ContainsFunc_Instr (fun x => !validInstr x xs.length) 173 #[.pointer (some ⟨w.heap.size, 0, none⟩)] A c xs _ (h.on hW) enters_ValidProgram1 (fun W x es _ hb hR => impl_ValidProgram1 es x W hR w.heap.size A xs.length c (by
    rw [hb.cell (p := ⟨w.heap.size, 0, none⟩) (by simp)]; simp [go_sem])))
  have HW := Lib.hid hW; clear hW h
  by_cases h1 : xs.length ≤ 400
  · have h1' : decide ((xs.length : Int) ≤ 400) = true := by simp; omega
    rw [show validProg xs = !xs.any (fun x => !validInstr x xs.length) from by unfold validProg; simp [h1]]
    go_enter Try.func85, Try.ntmps85
    go_wp2_with (go_at_call 172; refine hI.out.mono ?_; rintro e w' ⟨rfl, hb⟩)
    go_ret
    exact ⟨rfl, below_trans HW.out hb⟩
  · have h1' : decide ((xs.length : Int) ≤ 400) = false := by simp; omega
    rw [show validProg xs = false from by unfold validProg; simp [h1]]
    go_enter Try.func85, Try.ntmps85
    go_wp2_with fail
    go_ret
    exact ⟨rfl, HW.out⟩

theorem validInstr_eq (kd r t el : Int) (n : Nat) : validInstr (kd, r, t, el) n = (isReg r && withinB t 0 n && ((kd == 0 || kd == 1) && (kd != 0 || el == 0) && withinB el 0 n)) := by
  unfold validInstr
  by_cases k0 : kd = 0
  · subst k0
    by_cases e0 : el = 0
    · subst e0; simp [withinB]
    · have e0' : (el == 0) = false := by simp [e0]
      simp [e0']
  · by_cases k1 : kd = 1
    · subst k1; simp
    · simp [k0, k1]

def badProg (p : List tInstr) (x : tInstr) : Bool := !validInstr x p.length

theorem validProg_eq (p : List tInstr) : validProg p = (!p.any (badProg p) && decide (p.length ≤ 400)) := by
  unfold validProg badProg; rw [Bool.and_comm]

set_option maxHeartbeats 1000000 in
theorem spec_l07Is (A : Option Addr) (c : Nat) (xs : List tInstr) (w : World) (h : Sl eInstr w (Old w) A c xs) :
    Calls Try.prog 81 #[.slice A xs.length c] w fun e w' => e = .returned (.bool (validProg xs)) ∧ Below w.heap.size w w' := by
  have hlen := h.len
  have H := Lib.hid h; clear h
  have HV := Lib.hid (validProg_eq xs)
  go_enter Try.func81, Try.ntmps81
  go_wp2
  go_loopw [4] (fun s4 wr => ∃ k : Nat, k ≤ xs.length ∧ s4 = .int .i64 k ∧ Hid ((xs.take k).any (badProg xs) = false) ∧ Hid (Below w.heap.size w wr)) (fun s4 _ => xs.length - (intOf s4).toNat)
  case atStart => exact ⟨0, Nat.zero_le _, rfl, rfl, Below.refl _ w⟩
  case round =>
    obtain ⟨k, hk, rfl, HN, BW⟩ := hrel
    by_cases hlt : k < xs.length
    · have hltz : (k : Int) < (xs.length : Int) := by omega
      obtain ⟨b, off, es, rfl, hb, hR, hc⟩ := H.out.at hlt
      obtain ⟨rfl, _, _, _, _⟩ := shape_Instr hR
      have d0 : wr.cell? ⟨b, off + k * 4, none⟩ = some (.int .i64 xs[k].1) := (below_olds BW.out _ hb).trans (hc 0 _ rfl)
      have d1 : wr.cell? ⟨b, off + k * 4 + 1, none⟩ = some (.int .i64 xs[k].2.1) := (below_olds BW.out _ hb).trans (hc 1 _ rfl)
      have d2 : wr.cell? ⟨b, off + k * 4 + 2, none⟩ = some (.int .i64 xs[k].2.2.1) := (below_olds BW.out _ hb).trans (hc 2 _ rfl)
      have d3 : wr.cell? ⟨b, off + k * 4 + 3, none⟩ = some (.int .i64 xs[k].2.2.2) := (below_olds BW.out _ hb).trans (hc 3 _ rfl)
      clear hc hR
      have HT : Hid (badProg xs xs[k] = true → validProg xs = false) := fun e => by rw [HV.out, any_hit hlt e]; rfl
      have HS : Hid (badProg xs xs[k] = false → (xs.take (k + 1)).any (badProg xs) = false) := fun e => any_step hlt HN.out e
      generalize xs[k] = y at d0 d1 d2 d3 HT HS
      obtain ⟨kd, r, t, el⟩ := y
      have HE : Hid (badProg xs (kd, r, t, el) = !(isReg r && withinB t 0 xs.length && ((kd == 0 || kd == 1) && (kd != 0 || el == 0) && withinB el 0 xs.length))) := by show _ = _; unfold badProg; rw [validInstr_eq]
      have HBW : Hid (∀ o, Below w.heap.size w (wr.alloc o)) := fun o => below_alloc BW.out o
      cases q1 : isReg r
      · go_wp2_with (go_at_call 170; refine (spec_l07Register _ _).mono ?_; rintro e w' ⟨rfl, rfl⟩; rw [q1])
        go_ret
        exact ⟨by rw [HT.out (by rw [HE.out, q1]; simp)]; rfl, HBW.out _⟩
      cases q2 : withinB t 0 xs.length
      · go_wp2_with (first | (go_at_call 170; refine (spec_l07Register _ _).mono ?_; rintro e w' ⟨rfl, rfl⟩; rw [q1]) | (go_at_call 108; refine (spec_l00In _ _ _ _).mono ?_; rintro e w' ⟨rfl, rfl⟩; rw [q2]))
        go_ret
        exact ⟨by rw [HT.out (by rw [HE.out, q2]; simp)]; rfl, HBW.out _⟩
      by_cases k0 : kd = 0
      · subst k0
        by_cases e0 : el = 0
        · subst e0
          cases q3 : withinB 0 0 xs.length
          · exfalso; simp [withinB] at q3
          have hF := HS.out (by rw [HE.out, q1, q2, q3]; simp)
          have HF := Lib.hid hF; clear hF
          go_wp2_with (first | (go_at_call 170; refine (spec_l07Register _ _).mono ?_; rintro e w' ⟨rfl, rfl⟩; rw [q1]) | (go_at_call 108; refine (spec_l00In _ _ _ _).mono ?_; rintro e w' ⟨rfl, rfl⟩; first | rw [q2] | rw [q3]))
          go_roundw
          case rel => exact ⟨k + 1, by omega, by go_num, HF.out, HBW.out _⟩
          case measure => simp [intOf]; omega
        · have e0' : (el != 0) = true := by simp [e0]
          have hF := HT.out (by rw [HE.out]; simp [e0])
          have HF := Lib.hid hF; clear hF
          go_wp2_with (first | (go_at_call 170; refine (spec_l07Register _ _).mono ?_; rintro e w' ⟨rfl, rfl⟩; rw [q1]) | (go_at_call 108; refine (spec_l00In _ _ _ _).mono ?_; rintro e w' ⟨rfl, rfl⟩; rw [q2]))
          go_ret
          exact ⟨by rw [HF.out]; rfl, HBW.out _⟩
      have k0a : (kd != 0) = true := by simp [k0]
      have k0b : (kd == 0) = false := by simp [k0]
      by_cases k1 : kd = 1
      · subst k1
        cases q3 : withinB el 0 xs.length
        · have hF := HT.out (by rw [HE.out, q3]; simp)
          have HF := Lib.hid hF; clear hF
          go_wp2_with (first | (go_at_call 170; refine (spec_l07Register _ _).mono ?_; rintro e w' ⟨rfl, rfl⟩; rw [q1]) | (go_at_call 108; refine (spec_l00In _ _ _ _).mono ?_; rintro e w' ⟨rfl, rfl⟩; first | rw [q2] | rw [q3]))
          go_ret
          exact ⟨by rw [HF.out]; rfl, HBW.out _⟩
        · have hF := HS.out (by rw [HE.out, q1, q2, q3]; simp)
          have HF := Lib.hid hF; clear hF
          go_wp2_with (first | (go_at_call 170; refine (spec_l07Register _ _).mono ?_; rintro e w' ⟨rfl, rfl⟩; rw [q1]) | (go_at_call 108; refine (spec_l00In _ _ _ _).mono ?_; rintro e w' ⟨rfl, rfl⟩; first | rw [q2] | rw [q3]))
          go_roundw
          case rel => exact ⟨k + 1, by omega, by go_num, HF.out, HBW.out _⟩
          case measure => simp [intOf]; omega
      have k1a : (kd != 1) = true := by simp [k1]
      have hF := HT.out (by rw [HE.out]; simp [k0, k1])
      have HF := Lib.hid hF; clear hF
      go_wp2_with (first | (go_at_call 170; refine (spec_l07Register _ _).mono ?_; rintro e w' ⟨rfl, rfl⟩; rw [q1]) | (go_at_call 108; refine (spec_l00In _ _ _ _).mono ?_; rintro e w' ⟨rfl, rfl⟩; rw [q2]))
      go_ret
      exact ⟨by rw [HF.out]; rfl, HBW.out _⟩
    · have hltz : ¬ (k : Int) < (xs.length : Int) := by omega
      obtain rfl : k = xs.length := by omega
      go_wp2
      go_ret
      have hn := HN.out
      rw [List.take_length] at hn
      exact ⟨ret_bool (by rw [HV.out, hn]; simp; omega), BW.out⟩

theorem left_ok {l : Int} {n : Nat} (h : ¬ left l n < 0) : left l n = l - (n : Int) ∧ (n : Int) ≤ l := by
  unfold left at *; split at h <;> simp_all <;> omega

theorem validProg_reg {p : List tInstr} (h : validProg p = true) : ∀ i ∈ p, 0 ≤ i.2.1 ∧ i.2.1 ≤ 23 := by
  intro i hi
  unfold validProg at h
  simp at h
  have h1 := h.2 i.1 i.2.1 i.2.2.1 i.2.2.2 hi
  unfold validInstr isReg at h1
  simp only [Bool.and_eq_true] at h1
  have h2 := withinB_true.1 h1.1.1
  exact ⟨h2.1, h2.2⟩

theorem validProg_to {p : List tInstr} (h : validProg p = true) : ∀ i ∈ p, (0 ≤ i.2.2.1 ∧ i.2.2.1 ≤ p.length) ∧ (0 ≤ i.2.2.2 ∧ i.2.2.2 ≤ p.length) := by
  intro i hi
  unfold validProg at h
  simp at h
  have h1 := h.2 i.1 i.2.1 i.2.2.1 i.2.2.2 hi
  unfold validInstr at h1
  simp only [Bool.and_eq_true] at h1
  refine ⟨withinB_true.1 h1.1.2, ?_⟩
  have h3 := h1.2
  split at h3
  · simp at h3; omega
  · split at h3
    · exact withinB_true.1 h3
    · simp at h3

theorem ct_cost_SInstr (xs : List tInstr) : ct_SInstr xs ≤ 4 * cost_SInstr xs := by
  have := cntL_const ct_Instr 4 xs fun _ => rfl
  unfold ct_SInstr cost_SInstr; omega

def okP (p : List tInstr) : Prop := p.length ≤ 400 ∧ ∀ x ∈ p, (x.1 = 0 ∨ x.1 = 1) ∧ (0 ≤ x.2.2.1 ∧ x.2.2.1 ≤ 400) ∧ 0 ≤ x.2.2.2 ∧ x.2.2.2 ≤ 400

theorem validProg_okP {p : List tInstr} (h : validProg p = true) : okP p := by
  have hl : p.length ≤ 400 := by
    unfold validProg at h
    simp at h
    omega
  refine ⟨hl, fun x hx => ?_⟩
  have h2 := validProg_to h x hx
  refine ⟨?_, by omega, by omega, by omega⟩
  unfold validProg at h
  simp at h
  have h1 := h.2 x.1 x.2.1 x.2.2.1 x.2.2.2 hx
  unfold validInstr at h1
  simp only [Bool.and_eq_true] at h1
  have h3 := h1.2
  split at h3
  · rename_i q; exact .inl (by simpa using q)
  · split at h3
    · rename_i q; exact .inr (by simpa using q)
    · simp at h3

theorem heap_row {w : World} {g n off : Nat} {os : Array Obj} {cur : Array Value} {e : TypeId} {fr : Nat × Nat} (d : Array Int) (hb : w.heap[g]? = some (.cells cur e fr)) :
    (Go.Sort.grow (Go.Sort.putRow (Value.int .i64) (Go.Sort.ahead w n) g off d) os).heap[g]? = some (.cells (Go.Sort.putCells (Value.int .i64) off d cur) e fr) := by
  have hg : g < w.heap.size := (Array.getElem?_eq_some_iff.1 hb).1
  rw [Go.Sort.heap_grow_old _ _ (by simpa using hg)]
  simp [Go.Sort.putRow, Go.Sort.mapBlock, Go.Sort.ahead, Array.getElem?_modify, hb, Go.Sort.onCells]

theorem chg_row {w : World} {g n off : Nat} {os : Array Obj} {S : Nat → Prop} (d : Array Int) (hS : S g) : Chg S w (Go.Sort.grow (Go.Sort.putRow (Value.int .i64) (Go.Sort.ahead w n) g off d) os) := by
  refine ⟨rfl, rfl, rfl, by simp, fun k hk hne => ?_⟩
  rw [Go.Sort.heap_grow_old _ _ (by simpa using hk)]
  have : g ≠ k := fun e => hne (by rw [← e]; exact hS)
  simp [Go.Sort.putRow, Go.Sort.mapBlock, Go.Sort.ahead, Array.getElem?_modify, this]

theorem so_row {w : World} {S : Nat → Prop} {A : Option Addr} {c : Nat} {xs : List Int} (h : So eInt w S A c xs) (hx : xs ≠ []) :
    ∃ b off, A = some ⟨b, off, none⟩ ∧ S b ∧ b < w.heap.size ∧ Go.Sort.Holds (Value.int .i64) w b off xs.toArray ∧ (∀ x ∈ xs, I64 x) ∧
      ∀ (ys : List Int) (n : Nat) (os : Array Obj), ys.length = xs.length → (∀ y ∈ ys, I64 y) → So eInt (Go.Sort.grow (Go.Sort.putRow (Value.int .i64) (Go.Sort.ahead w n) b off ys.toArray) os) S A c ys ∧ Chg S w (Go.Sort.grow (Go.Sort.putRow (Value.int .i64) (Go.Sort.ahead w n) b off ys.toArray) os) := by
  obtain ⟨h1, h2, h3⟩ := h
  obtain ⟨b, off, t, cur, T, rfl, hb, hB, hT1, hT2, hE⟩ := h3 hx
  have hcell : ∀ (i : Nat) (x : Int), xs[i]? = some x → cur[off + i]? = some (.int .i64 x) ∧ I64 x := by
    intro i x hi
    obtain ⟨es, ⟨rfl, hI⟩, hc⟩ := hE i x hi
    have := hc 0 _ rfl
    rw [show off + i * eInt.size + 0 = off + i from by simp [eInt]] at this
    exact ⟨this, hI⟩
  refine ⟨b, off, rfl, hb, Blk.lt hB, ?_, ?_, ?_⟩
  · intro j hj
    have hj' : j < xs.length := by simpa using hj
    refine ⟨?_, by
      have hB' : w.heap[b]? = some (.cells cur t (0, 0)) := hB
      simp [World.frozen?, hB']⟩
    rw [hB.cell, (hcell j xs[j] (List.getElem?_eq_getElem hj')).1]
    simp [hj']
  · intro x hx'
    obtain ⟨i, hi⟩ := List.mem_iff_getElem?.1 hx'
    exact (hcell i x hi).2
  · intro ys n os hl hI
    refine ⟨⟨by omega, h2, fun _ => ⟨b, off, t, _, T, rfl, hb, heap_row ys.toArray hB, hT1, hT2, ?_⟩⟩, chg_row _ hb⟩
    intro i y hy
    refine ⟨[.int .i64 y], ⟨rfl, hI y (List.mem_of_getElem? hy)⟩, fun j v hv => ?_⟩
    rcases j with _ | j
    · simp at hv
      subst hv
      have hi : i < xs.length := by have := (List.getElem?_eq_some_iff.1 hy).1; omega
      have hc := (hcell i xs[i] (List.getElem?_eq_getElem hi)).1
      have hi2 : i < ys.length := by omega
      have hy2 : ys[i] = y := by rw [List.getElem?_eq_getElem hi2] at hy; exact Option.some.inj hy
      rw [show off + i * eInt.size + 0 = off + i from by simp [eInt]]
      simp [Go.Sort.putCells, Array.getElem?_mapIdx, hc, hi2, hy2]
    · simp at hv

def sortI (xs : List Int) : List Int := xs.mergeSort fun x y => decide (x ≤ y)

theorem sortI_len (xs : List Int) : (sortI xs).length = xs.length := List.length_mergeSort xs

theorem sortI_mem {xs : List Int} {x : Int} : x ∈ sortI xs ↔ x ∈ xs := (List.mergeSort_perm xs _).mem_iff

def shelf_sort_ren : Go.Shelf.Ren := ⟨fun | 53 => 156 | 64 => 220 | 63 => 219 | 78 => 246 | 79 => 247 | 70 => 238 | 71 => 239 | 72 => 240 | 73 => 241 | 74 => 242 | 75 => 243 | 59 => 179 | 76 => 244 | 77 => 245 | 88 => 251 | 89 => 252 | 90 => 253 | 91 => 254 | 92 => 255 | 68 => 228 | 96 => 264 | n => n, fun | 22 => 31 | 23 => 2 | 3 => 3 | 51 => 209 | 0 => 0 | 67 => 263 | 69 => 265 | 4 => 4 | 61 => 257 | 60 => 256 | 44 => 128 | 5 => 5 | 9 => 9 | 75 => 269 | 79 => 273 | 83 => 280 | 84 => 281 | n => n, fun | n => n⟩

theorem shelf_sort : Go.Proofs.SlLaysN.n53 Try.prog shelf_sort_ren := {
  mixed := by kernel_rfl
  f53 := ⟨Try.f156.name, by decide, Try.func156.trans (congrArg some (by kernel_rfl))⟩
  f59 := ⟨Try.f179.name, by decide, Try.func179.trans (congrArg some (by kernel_rfl))⟩
  f63 := ⟨Try.f219.name, by decide, Try.func219.trans (congrArg some (by kernel_rfl))⟩
  f64 := Try.func220.trans (congrArg some (by kernel_rfl))
  f68 := ⟨Try.f228.name, by decide, Try.func228.trans (congrArg some (by kernel_rfl))⟩
  f70 := ⟨Try.f238.name, by decide, Try.func238.trans (congrArg some (by kernel_rfl))⟩
  f71 := ⟨Try.f239.name, by decide, Try.func239.trans (congrArg some (by kernel_rfl))⟩
  f72 := ⟨Try.f240.name, by decide, Try.func240.trans (congrArg some (by kernel_rfl))⟩
  f73 := ⟨Try.f241.name, by decide, Try.func241.trans (congrArg some (by kernel_rfl))⟩
  f74 := ⟨Try.f242.name, by decide, Try.func242.trans (congrArg some (by kernel_rfl))⟩
  f75 := ⟨Try.f243.name, by decide, Try.func243.trans (congrArg some (by kernel_rfl))⟩
  f76 := ⟨Try.f244.name, by decide, Try.func244.trans (congrArg some (by kernel_rfl))⟩
  f77 := ⟨Try.f245.name, by decide, Try.func245.trans (congrArg some (by kernel_rfl))⟩
  f78 := Try.func246.trans (congrArg some (by kernel_rfl))
  f79 := Try.func247.trans (congrArg some (by kernel_rfl))
  f88 := ⟨Try.f251.name, by decide, Try.func251.trans (congrArg some (by kernel_rfl))⟩
  f89 := Try.func252.trans (congrArg some (by kernel_rfl))
  f90 := Try.func253.trans (congrArg some (by kernel_rfl))
  f91 := ⟨Try.f254.name, by decide, Try.func254.trans (congrArg some (by kernel_rfl))⟩
  f92 := ⟨Try.f255.name, by decide, Try.func255.trans (congrArg some (by kernel_rfl))⟩
  f96 := ⟨Try.f264.name, by decide, Try.func264.trans (congrArg some (by kernel_rfl))⟩
  t0 := Try.underlying0
  a0 := Try.isAgg0
  z0 := Try.sizeOf0
  v0 := Try.zeroValue0
  t3 := Try.underlying3
  a3 := Try.isAgg3
  z3 := Try.sizeOf3
  v3 := Try.zeroValue3
  t4 := Try.underlying4
  a4 := Try.isAgg4
  z4 := Try.sizeOf4
  v4 := Try.zeroValue4
  t5 := Try.underlying5
  a5 := Try.isAgg5
  z5 := Try.sizeOf5
  v5 := Try.zeroValue5
  t9 := Try.underlying9
  a9 := Try.isAgg9
  z9 := Try.sizeOf9
  v9 := Try.zeroValue9
  t22 := Try.underlying31
  a22 := Try.isAgg31
  z22 := Try.sizeOf31
  v22 := Try.zeroValue31
  t23 := Try.underlying2
  a23 := Try.isAgg2
  z23 := Try.sizeOf2
  v23 := Try.zeroValue2
  t44 := Try.underlying128
  a44 := Try.isAgg128
  z44 := Try.sizeOf128
  v44 := Try.zeroValue128
  t51 := Try.underlying209
  a51 := Try.isAgg209
  z51 := Try.sizeOf209
  v51 := Try.zeroValue209
  t60 := Try.underlying256
  a60 := Try.isAgg256
  z60 := Try.sizeOf256
  v60 := Try.zeroValue256
  t61 := Try.underlying257
  a61 := Try.isAgg257
  z61 := Try.sizeOf257
  v61 := Try.zeroValue257
  t67 := Try.underlying263
  a67 := Try.isAgg263
  z67 := Try.sizeOf263
  v67 := Try.zeroValue263
  t69 := Try.underlying265
  a69 := Try.isAgg265
  z69 := Try.sizeOf265
  v69 := Try.zeroValue265
  t75 := Try.underlying269
  a75 := Try.isAgg269
  z75 := Try.sizeOf269
  v75 := Try.zeroValue269
  t79 := Try.underlying273
  a79 := Try.isAgg273
  z79 := Try.sizeOf273
  v79 := Try.zeroValue273
  t83 := Try.underlying280
  a83 := Try.isAgg280
  z83 := Try.sizeOf280
  v83 := Try.zeroValue280
  t84 := Try.underlying281
  a84 := Try.isAgg281
  z84 := Try.sizeOf281
  v84 := Try.zeroValue281 }

theorem Sort_Int64 (M : Nat → Prop) (A : Option Addr) (c : Nat) (a : List Int) (S : Nat → Prop) (w : World) (HM : Held M w [rSo eInt S A c a] w) (s0 : a.length ≤ 1000000000) :
    Calls Try.prog 156 #[.slice A a.length c] w fun e w' => ∃ (S' : Nat → Prop), e = .returned (.tuple #[]) ∧ Held M w [rSo eInt S' A c (sortI a)] w' := by
  by_cases hx : a = []
  · subst hx
    refine (show Calls Try.prog 156 #[.slice A 0 c] w _ from AnyG.slices_Sort_int_none shelf_sort A c w).mono ?_
    rintro e w' ⟨rfl, rfl⟩
    exact ⟨S, rfl, by rw [show sortI [] = [] from by simp [sortI]]; exact HM⟩
  · obtain ⟨b, off, rfl, hb, hlt, hH, hI, hput⟩ := so_row (so_of_o (HM.get (i := 0) rfl)) hx
    refine (show Calls Try.prog 156 #[.slice (some ⟨b, off, none⟩) a.length c] w _ from AnyG.slices_Sort_int shelf_sort b off c a w hH hlt (by omega)).mono ?_
    rintro e w' ⟨rfl, n, os, rfl⟩
    obtain ⟨h1, h2⟩ := hput (sortI a) n os (sortI_len a) fun y hy => hI y (sortI_mem.1 hy)
    exact ⟨S, rfl, HM.mut (i := 0) rfl h2 (rSo eInt S (some ⟨b, off, none⟩) c (sortI a)) (oSl h1) fun _ hb => .inl hb⟩

theorem sortI_rise (xs : List Int) : (sortI xs).Pairwise (· ≤ ·) := by
  have := List.pairwise_mergeSort (le := fun x y : Int => decide (x ≤ y)) (fun a b c h1 h2 => by simp at *; omega) (fun a b => by simp; omega) xs
  exact this.imp fun h => by simpa using h

def orderB (xs : List Int) (n : Int) : Bool := decide ((xs.length : Int) = n) && (List.range xs.length).all fun i => decide ((sortI xs)[i]?.getD 0 = (i : Int))

theorem rise_at {ys : List Int} (h : ys.Pairwise (· < ·)) : ∀ (i : Nat) (hi : i < ys.length), (∀ y ∈ ys, 0 ≤ y ∧ y < (ys.length : Int)) → ys[i] = (i : Int) := by
  have up : ∀ (i : Nat) (hi : i < ys.length), (∀ y ∈ ys, 0 ≤ y) → (i : Int) ≤ ys[i] := by
    intro i
    induction i with
    | zero => intro hi h0; exact h0 _ (List.getElem_mem hi)
    | succ i ih =>
      intro hi h0
      have h1 := ih (by omega) h0
      have h2 := List.pairwise_iff_getElem.1 h i (i + 1) (by omega) hi (by omega)
      have h3 : ys[i] < ys[i + 1] := h2
      omega
  have down : ∀ (d i : Nat) (hi : i < ys.length), i + d + 1 = ys.length → (∀ y ∈ ys, y < (ys.length : Int)) → ys[i] ≤ (i : Int) := by
    intro d
    induction d with
    | zero =>
      intro i hi hd h0
      have := h0 _ (List.getElem_mem hi)
      omega
    | succ d ih =>
      intro i hi hd h0
      have h1 := ih (i + 1) (by omega) (by omega) h0
      have h2 := List.pairwise_iff_getElem.1 h i (i + 1) hi (by omega) (by omega)
      have h3 : ys[i] < ys[i + 1] := h2
      omega
  intro i hi h0
  have h1 := up i hi fun y hy => (h0 y hy).1
  have h2 := down (ys.length - 1 - i) i hi (by omega) fun y hy => (h0 y hy).2
  omega

theorem order_iff (xs : List Int) (n : Int) : orderB xs n = true ↔ (xs.length : Int) = n ∧ (∀ x ∈ xs, 0 ≤ x ∧ x < n) ∧ xs.Nodup := by
  have hl := sortI_len xs
  unfold orderB
  simp only [Bool.and_eq_true, decide_eq_true_eq, List.all_eq_true, List.mem_range]
  constructor
  · rintro ⟨h1, h2⟩
    have hat : ∀ (i : Nat) (hi : i < (sortI xs).length), (sortI xs)[i] = (i : Int) := by
      intro i hi
      have := h2 i (by omega)
      rwa [List.getElem?_eq_getElem hi] at this
    refine ⟨h1, fun x hx => ?_, ?_⟩
    · obtain ⟨i, hi, rfl⟩ := List.mem_iff_getElem.1 (sortI_mem.2 hx)
      rw [hat i hi]
      omega
    · refine (List.mergeSort_perm xs (fun x y => decide (x ≤ y))).nodup_iff.1 ?_
      refine List.pairwise_iff_getElem.2 fun i j hi hj hij => ?_
      have e1 := hat i hi
      have e2 := hat j hj
      unfold sortI at e1 e2
      rw [e1, e2]
      omega
  · rintro ⟨h1, h2, h3⟩
    refine ⟨h1, fun i hi => ?_⟩
    have hnd : (sortI xs).Nodup := (List.mergeSort_perm xs (fun x y => decide (x ≤ y))).nodup_iff.2 h3
    have hr : (sortI xs).Pairwise (· < ·) := by
      refine List.pairwise_iff_getElem.2 fun i j hi hj hij => ?_
      have h4 := List.pairwise_iff_getElem.1 (sortI_rise xs) i j hi hj hij
      have h5 : (sortI xs)[i] ≠ (sortI xs)[j] := List.pairwise_iff_getElem.1 hnd i j hi hj hij
      omega
    rw [List.getElem?_eq_getElem (by omega)]
    exact rise_at hr i (by omega) fun y hy => by
      have := h2 y (sortI_mem.1 hy)
      omega

def seenL (n : Nat) (xs : List Int) : List Bool := (List.range n).map fun (i : Nat) => decide ((i : Int) ∈ xs)

theorem seenL_len (n : Nat) (xs : List Int) : (seenL n xs).length = n := by simp [seenL]

theorem seenL_nil (n : Nat) : seenL n [] = List.replicate n false := by
  apply List.ext_getElem
  · simp [seenL]
  · intro i h1 h2; simp [seenL]

theorem seenL_at {n : Nat} {xs : List Int} {x : Int} (h0 : 0 ≤ x) (h : x.toNat < (seenL n xs).length) : (seenL n xs)[x.toNat] = decide (x ∈ xs) := by
  simp only [seenL, List.getElem_map, List.getElem_range]
  rw [show ((x.toNat : Nat) : Int) = x from by omega]

theorem seenL_set {n : Nat} {xs : List Int} {x : Int} (h0 : 0 ≤ x) (h1 : x < n) : seenL n (xs ++ [x]) = (seenL n xs).set x.toNat true := by
  apply List.ext_getElem
  · simp [seenL]
  · intro i hi h2
    rw [List.getElem_set]
    simp only [seenL, List.getElem_map, List.getElem_range, List.mem_append, List.mem_singleton]
    split
    · rename_i e; subst e; simp [show ((x.toNat : Nat) : Int) = x from by omega]
    · rename_i e
      have : ¬ (i : Int) = x := by omega
      simp [this]

theorem order_miss {xs : List Int} {n : Int} {k : Nat} (hk : k < xs.length) (h : ¬ (0 ≤ xs[k] ∧ xs[k] < n)) : orderB xs n = false :=
  Bool.eq_false_iff.2 fun h2 => h (((order_iff xs n).1 h2).2.1 _ (List.getElem_mem hk))

theorem order_dup {xs : List Int} {n : Int} {k : Nat} (hk : k < xs.length) (h : xs[k] ∈ xs.take k) : orderB xs n = false := by
  refine Bool.eq_false_iff.2 fun h2 => ?_
  have h3 := ((order_iff xs n).1 h2).2.2
  rw [← List.take_append_drop k xs, List.drop_eq_getElem_cons hk] at h3
  have h4 := (List.nodup_append.1 h3).2.2
  exact h4 _ h _ List.mem_cons_self rfl

theorem order_len {xs : List Int} {n : Int} (h : ¬ (xs.length : Int) = n) : orderB xs n = false :=
  Bool.eq_false_iff.2 fun h2 => h ((order_iff xs n).1 h2).1

theorem order_all {xs : List Int} {n : Int} (h : (xs.length : Int) = n) (h1 : ∀ x ∈ xs, 0 ≤ x ∧ x < n) (h2 : xs.Nodup) : orderB xs n = true := (order_iff xs n).2 ⟨h, h1, h2⟩

theorem order_srt {xs : List Int} {n : Int} (h : (xs.length : Int) = n) (h1 : ∀ i, i < xs.length → (sortI xs)[i]?.getD 0 = (i : Int)) : orderB xs n = true := by
  unfold orderB
  simp only [Bool.and_eq_true, decide_eq_true_eq, List.all_eq_true, List.mem_range]
  exact ⟨h, h1⟩

theorem order_bad {xs : List Int} {n : Int} {k : Nat} (hk : k < xs.length) (h : ¬ (sortI xs)[k]?.getD 0 = (k : Int)) : orderB xs n = false := by
  refine Bool.eq_false_iff.2 fun h2 => h ?_
  unfold orderB at h2
  simp only [Bool.and_eq_true, decide_eq_true_eq, List.all_eq_true, List.mem_range] at h2
  exact h2.2 k hk

theorem all_succ {p : Nat → Prop} {k : Nat} (h : ∀ i, i < k → p i) (hk : p k) : ∀ i, i < k + 1 → p i := fun i hi => by
  by_cases e : i = k
  · rw [e]; exact hk
  · exact h i (by omega)

theorem nodup_snoc {xs : List Int} {x : Int} (h : xs.Nodup) (h2 : ¬ x ∈ xs) : (xs ++ [x]).Nodup := by
  refine List.nodup_append.2 ⟨h, by simp, ?_⟩
  intro a ha b hb e
  rw [List.mem_singleton.1 hb] at e
  exact h2 (e ▸ ha)

/-- The first k elements turned by f. -/
def mpTo {α : Type} (f : α → α) (xs : List α) (k : Nat) : List α := (xs.take k).map f ++ xs.drop k

theorem mpTo_len {α : Type} (f : α → α) (xs : List α) (k : Nat) : (mpTo f xs k).length = xs.length := by
  unfold mpTo
  rw [List.length_append, List.length_map, List.length_take, List.length_drop]; omega

theorem mpTo_zero {α : Type} (f : α → α) (xs : List α) : mpTo f xs 0 = xs := by simp [mpTo]

theorem mpTo_end {α : Type} (f : α → α) (xs : List α) {k : Nat} (h : xs.length ≤ k) : mpTo f xs k = xs.map f := by
  unfold mpTo; rw [List.take_of_length_le h, List.drop_of_length_le h]; simp

theorem mpTo_at {α : Type} (f : α → α) (xs : List α) {k : Nat} (h : k < xs.length) (h2 : k < (mpTo f xs k).length) : (mpTo f xs k)[k] = xs[k] := by
  have hl : ((xs.take k).map f).length = k := by simp; omega
  have e : (mpTo f xs k)[k]? = xs[k]? := by
    unfold mpTo
    rw [List.getElem?_append_right (by omega), hl, Nat.sub_self]
    simp
  rw [List.getElem?_eq_getElem h2, List.getElem?_eq_getElem h] at e
  exact Option.some.inj e

theorem mpTo_succ {α : Type} (f : α → α) (xs : List α) {k : Nat} (h : k < xs.length) : mpTo f xs (k + 1) = (mpTo f xs k).set k (f xs[k]) := by
  have hl : ((xs.take k).map f).length = k := by simp; omega
  unfold mpTo
  rw [List.set_append_right _ _ (by omega), hl, Nat.sub_self, List.take_succ_eq_append_getElem h, List.map_append, List.append_assoc, List.drop_eq_getElem_cons h]
  rfl

def mapReg (order : List Int) (x : tInstr) : tInstr := (x.1, order[x.2.1.toNat]?.getD 0, x.2.2.1, x.2.2.2)

def mapRegs (p : List tInstr) (order : List Int) : List tInstr × Int := if validProg p = true then (if orderB order 24 = true then (p.map (mapReg order), 0) else ([], 2)) else ([], 1)

theorem mapRegs_ct (p : List tInstr) (o : List Int) : (ct_SInstr (mapRegs p o).1 : Int) ≤ 1000000000 := by
  have h1 := cntL_const ct_Instr 4 (mapRegs p o).1 fun _ => rfl
  have h2 : (mapRegs p o).1.length ≤ 400 := by
    unfold mapRegs
    split
    · rename_i h
      have := (validProg_okP h).1
      split
      · simp; omega
      · simp
    · simp
  unfold ct_SInstr
  omega

set_option maxRecDepth 100000 in
set_option maxHeartbeats 4000000 in
theorem impl_SortList (A0 : Option Addr) (c0 : Nat) (a0 : (List Int)) (w : World) (h0 : Sl eInt w (Old w) A0 c0 a0) (s0 : a0.length ≤ 1000000000) :
    Calls Try.prog 222 #[.slice A0 a0.length c0] w fun e w' => ∃ (A0' : Option Addr) (c0' : Nat), e = .returned (.slice A0' (sortI a0).length c0') ∧ So eInt w' (Fr w w') A0' c0' (sortI a0) ∧ Below w.heap.size w w' := by
  have l0 := h0.len
  have HH1 := Held.start Nob w
  refine enter (n := 9) Try.func222 rfl rfl rfl fun a_2 HE3 => ?_
  refine wp_seq ?_
  refine rg ?_
  refine pl_x HE3 HH1 (wt0 rfl) (x_assign rfl) rfl rfl fun a_4 HE5 => ?_
  refine wpList_nil ?_
  clear a_2 HE3
  refine nrm ?_
  refine wp_seq ?_
  refine rg ?_
  refine pl_x HE5 HH1 (wt0 rfl) (x_move rfl) rfl rfl fun a_6 HE7 => ?_
  refine pl fun K_8 hK9 => ?_
  refine st_call HE7 (wt0 rfl) rfl rfl rfl en_152 rfl rfl (Clone_Int64 _ _ a0 _ (HH1.old h0) (by omega)) fun e w' hr => ?_
  obtain ⟨Ar21_0, cr21_0, rfl, hor21_0, hbr21⟩ := hr
  obtain ⟨Sr21, HH10⟩ := HH1.newS hbr21 hor21_0
  refine ⟨_, rfl, fun a_11 HE12 => hK9 _ _ ?_⟩
  refine pl_x HE12 HH10 (wt0 rfl) (x_assign rfl) rfl rfl fun a_13 HE14 => ?_
  refine wpList_nil ?_
  clear a_4 HE5 HH1 a_6 HE7 a_11 HE12 hK9 K_8
  refine nrm ?_
  refine wp_seq ?_
  refine rg ?_
  refine pl_x HE14 HH10 (wt0 rfl) (x_move rfl) rfl rfl fun a_15 HE16 => ?_
  refine pl fun K_17 hK18 => ?_
  have HH19 : Held Nob w ([rSo eInt Sr21 Ar21_0 cr21_0 a0] ++ []) _ := HH10
  refine st_call HE16 (wt0 rfl) rfl rfl rfl en_156 rfl rfl (Sort_Int64 (Foot [rSo eInt Sr21 Ar21_0 cr21_0 a0]) _ _ a0 _ _ HH19.focus (by omega)) fun e w' hr => ?_
  obtain ⟨Sr22_0, rfl, hbr22⟩ := hr
  have HH20 := HH19.back hbr22
  clear hbr22
  have HH21 : Held Nob w ([rSo eInt Sr22_0 Ar21_0 cr21_0 (sortI a0)] ++ []) _ := HH20
  have hAr22_0 := sortI_len a0
  refine ⟨_, rfl, fun a_22 HE23 => hK18 _ _ ?_⟩
  refine wpList_nil ?_
  clear a_13 HE14 HH10 HH19 HH20 a_15 HE16 hK18 K_17
  refine nrm ?_
  refine wp_seq ?_
  refine rg ?_
  refine pl_x HE23 HH21 (wt0 rfl) (x_move rfl) rfl rfl fun a_24 HE25 => ?_
  refine pl_x HE25 HH21 (wt0 rfl) (x_assign rfl) rfl rfl fun a_26 HE27 => ?_
  refine wpList_nil ?_
  clear a_22 HE23 a_24 HE25
  refine nrm ?_
  refine wp_ret ?_
  refine ret1 HE27 rfl (rv_tmp rfl) ?_
  have hF : (sortI a0) = (sortI a0) := by
    rfl
  exact ⟨Ar21_0, cr21_0, by first | (rw [hF] <;> rfl) | rfl | (rw [hF]; simp only [Ending.returned.injEq, Value.slice.injEq, true_and, and_true]; first | omega | (simp; done)) | (rw [hF]; simp; omega), by rw [hF]; exact (HH21.so (i := 0) rfl), HH21.below⟩

set_option maxRecDepth 100000 in
set_option maxHeartbeats 4000000 in
theorem impl_isOrder (A0 : Option Addr) (c0 : Nat) (a0 : (List Int)) (a1 : Int) (w : World) (h0 : Sl eInt w (Old w) A0 c0 a0) (s0 : -1000 ≤ a1 ∧ a1 ≤ 1000) :
    Calls Try.prog 159 #[.slice A0 a0.length c0, .int .i64 a1] w fun e w' => e = .returned (.bool (orderB a0 a1)) ∧ Below w.heap.size w w' := by
  have l0 := h0.len
  have HH1 := Held.start Nob w
  refine enter (n := 23) Try.func159 rfl rfl rfl fun a_2 HE3 => ?_
  refine wp_seq ?_
  refine rg ?_
  refine pl_x HE3 HH1 (wt0 rfl) (x_assign rfl) rfl rfl fun a_4 HE5 => ?_
  refine wpList_nil ?_
  clear a_2 HE3
  refine nrm ?_
  refine wp_seq ?_
  refine wp_seq ?_
  refine rg ?_
  refine pl_x HE5 HH1 (wt0 rfl) (x_move rfl) rfl rfl fun a_6 HE7 => ?_
  refine pl fun K_8 hK9 => ?_
  refine st_call HE7 (wt0 rfl) rfl rfl rfl en_221 rfl rfl (impl_size_Int64 _ _ _ _) fun e w' hr => ?_
  obtain ⟨rfl, rfl⟩ := hr
  refine ⟨_, rfl, fun a_10 HE11 => hK9 _ _ ?_⟩
  refine pl_x HE11 HH1 (wt0 rfl) (x_move rfl) rfl rfl fun a_12 HE13 => ?_
  refine pl_x HE13 HH1 (wt0 rfl) (x_neq rfl rfl) rfl rfl fun a_14 HE15 => ?_
  refine wpList_nil ?_
  clear a_4 HE5 a_6 HE7 a_10 HE11 a_12 HE13 hK9 K_8
  refine nrm ?_
  refine cnd_ne HE15 rfl (fun hc22 => ?_) (fun hc22 => ?_)
  · refine wp_seq ?_
    refine rg ?_
    refine pl_x HE15 HH1 (wt0 rfl) (x_assign rfl) rfl rfl fun a_16 HE17 => ?_
    refine wpList_nil ?_
    clear a_14 HE15
    refine nrm ?_
    refine wp_ret ?_
    refine (thn_ret ?_)
    refine ret1 HE17 rfl (rv_tmp rfl) ?_
    have hF : (orderB a0 a1) = false := by
      first | exact order_len (by omega) | exact order_bad (k := k) (by omega) (by rw [List.getElem?_eq_getElem (by omega), ← xy0, Option.getD_some]; omega) | exact order_srt (by omega) (fun i hi => p0_1 i (by omega))
    exact ⟨by first | (rw [hF] <;> rfl) | rfl | (rw [hF]; simp only [Ending.returned.injEq, Value.slice.injEq, true_and, and_true]; first | omega | (simp; done)) | (rw [hF]; simp; omega), HH1.below⟩
  · refine wp_skip ?_
    refine nrm ?_
    refine wp_seq ?_
    refine wp_seq ?_
    refine rg ?_
    refine pl_x HE15 HH1 (wt0 rfl) (x_move rfl) rfl rfl fun a_18 HE19 => ?_
    refine pl fun K_20 hK21 => ?_
    refine st_call HE19 (wt0 rfl) rfl rfl rfl en_222 rfl rfl (impl_SortList _ _ a0 _ (HH1.old h0) (by omega)) fun e w' hr => ?_
    obtain ⟨Ar23_0, cr23_0, rfl, hor23_0, hbr23⟩ := hr
    obtain ⟨Sr23, HH22⟩ := HH1.newS hbr23 hor23_0
    refine ⟨_, rfl, fun a_23 HE24 => hK21 _ _ ?_⟩
    refine pl_x HE24 HH22 (wt0 rfl) (x_len Try.underlying31 rfl) rfl rfl fun a_25 HE26 => ?_
    refine pl_x HE26 HH22 (wt0 rfl) (x_move rfl) rfl rfl fun a_27 HE28 => ?_
    refine wpList_nil ?_
    clear a_14 HE15 HH1 a_18 HE19 a_23 HE24 a_25 HE26 hK21 K_20
    refine nrm ?_
    refine wp_block ?_
    refine lp (fun m a w' => ∃ (k : Nat), m = a0.length - k ∧ Env 23 [(14, .int .i64 (k : Int)), (12, .slice Ar23_0 ((sortI a0).length) cr23_0), (13, .int .i64 (((sortI a0).length : Int)))] a ∧ Held Nob w [rSo eInt Sr23 Ar23_0 cr23_0 (sortI a0)] w' ∧ (k ≤ a0.length) ∧ (∀ i, i < k → (sortI a0)[i]?.getD 0 = (i : Int))) (a0.length - (0)) ?_ ?_
    · exact ⟨0, rfl, HE28.sub ⟨(lkI rfl (by first | rfl | omega | (simp [hc22]; done))), rfl, rfl, trivial⟩, (HH22.sel [0] (by decide) rfl), (by first | omega | assumption | (simp; done) | simp_all), (by intro i hi; omega)⟩
    · rintro m a_29 w' ⟨k, rfl, HE30, HH31, p24_0, p24_1⟩
      have hl0 := sortI_len a0
      refine wp_seq ?_
      refine rg ?_
      refine pl_x HE30 HH31 (wt0 rfl) (x_lss rfl rfl) rfl rfl fun a_32 HE33 => ?_
      refine wpList_nil ?_
      clear a_27 HE28 HH22 a_29 HE30
      refine nrm ?_
      refine wp_seq ?_
      refine cnd_d HE33 rfl (fun hc25 => ?_) (fun hc25 => ?_)
      · refine wp_skip ?_
        refine nrm ?_
        refine wp_seq ?_
        refine wp_block ?_
        refine wp_seq ?_
        refine rg ?_
        refine pl_x HE33 HH31 (wt0 rfl) (x_move rfl) rfl rfl fun a_34 HE35 => ?_
        have ke26 : k < (sortI a0).length := by omega
        obtain ⟨be26, fe26, rfl⟩ := el_own HH31 (i := 0) rfl ke26
        refine pl_x HE35 HH31 (wt0 rfl) (x_indexAddr ts_31 rfl rfl rfl rfl ke26) rfl rfl fun a_36 HE37 => ?_
        obtain ⟨y27, xy27⟩ : ∃ y_, y_ = (sortI a0)[k]'(by first | exact ke26 | (simp only [List.length_set]; exact ke26) | omega | (simp only [List.length_set]; omega) | (simp; omega)) := ⟨_, rfl⟩
        have iy27 : I64 y27 := by rw [xy27]; exact i_ownI HH31 0 rfl _
        have jy27 := iy27; unfold I64 at jy27
        refine pl_x HE37 HH31 (wt0 rfl) (x_load1 tv_2 rfl (c_ownV 0 rfl (by first | exact ke26 | (simp only [List.length_set]; exact ke26) | omega | (simp only [List.length_set]; omega) | (simp; omega)) xy27.symm)) rfl rfl fun a_38 HE39 => ?_
        refine pl_x HE39 HH31 (wt0 rfl) (x_assign rfl) rfl rfl fun a_40 HE41 => ?_
        refine pl_x HE41 HH31 (wt0 rfl) (x_assign rfl) rfl rfl fun a_42 HE43 => ?_
        refine wpList_nil ?_
        clear a_32 HE33 a_34 HE35 a_36 HE37 a_38 HE39 a_40 HE41
        refine nrm ?_
        refine wp_seq ?_
        refine rg ?_
        refine pl_x HE43 HH31 (wt0 rfl) (x_move rfl) rfl rfl fun a_44 HE45 => ?_
        refine pl_x HE45 HH31 (wt0 rfl) (x_move rfl) rfl rfl fun a_46 HE47 => ?_
        refine pl_x HE47 HH31 (wt0 rfl) (x_neq rfl rfl) rfl rfl fun a_48 HE49 => ?_
        refine wpList_nil ?_
        clear a_42 HE43 a_44 HE45 a_46 HE47
        refine nrm ?_
        refine cnd_ne HE49 rfl (fun hc28 => ?_) (fun hc28 => ?_)
        · refine wp_seq ?_
          refine rg ?_
          refine pl_x HE49 HH31 (wt0 rfl) (x_assign rfl) rfl rfl fun a_50 HE51 => ?_
          refine wpList_nil ?_
          clear a_48 HE49
          refine nrm ?_
          refine wp_ret ?_
          refine (blk_ret (thn_ret (thn_ret (blk_ret (thn_ret ?_)))))
          refine ret1 HE51 rfl (rv_tmp rfl) ?_
          have hF : (orderB a0 a1) = false := by
            first | exact order_len (by omega) | exact order_bad (k := k) (by omega) (by rw [List.getElem?_eq_getElem (by omega), ← xy27, Option.getD_some]; omega) | exact order_srt (by omega) (fun i hi => p24_1 i (by omega))
          exact ⟨by first | (rw [hF] <;> rfl) | rfl | (rw [hF]; simp only [Ending.returned.injEq, Value.slice.injEq, true_and, and_true]; first | omega | (simp; done)) | (rw [hF]; simp; omega), HH31.below⟩
        · refine wp_skip ?_
          refine blk_n ?_
          refine nrm ?_
          refine rg ?_
          refine pl_x HE49 HH31 (wt0 rfl) (x_add rfl rfl (by exact ⟨by omega, by omega⟩)) rfl rfl fun a_52 HE53 => ?_
          refine pl_x HE53 HH31 (wt0 rfl) (x_move rfl) rfl rfl fun a_54 HE55 => ?_
          refine wpList_nil ?_
          clear a_48 HE49 a_52 HE53
          exact nrm ⟨a0.length - (k + 1), (by omega), k + 1, rfl, HE55.sub ⟨(lkI rfl (by first | rfl | omega | (simp [hc22, p24_0, p24_1, hc25, xy27, hc28]; done))), rfl, rfl, trivial⟩, (HH31.sel [0] (by decide) rfl), (by first | omega | assumption | (simp; done) | simp_all), (by exact all_succ p24_1 (by rw [List.getElem?_eq_getElem (by omega), ← xy27, Option.getD_some]; omega))⟩
      · refine wp_exit ?_
        refine (thn_exit (thn_exit (blk_hit ?_)))
        refine nrm ?_
        refine wp_seq ?_
        refine rg ?_
        refine pl_x HE33 HH31 (wt0 rfl) (x_assign rfl) rfl rfl fun a_56 HE57 => ?_
        refine wpList_nil ?_
        clear a_32 HE33
        refine nrm ?_
        refine wp_ret ?_
        refine ret1 HE57 rfl (rv_tmp rfl) ?_
        have hF : (orderB a0 a1) = true := by
          first | exact order_len (by omega) | exact order_bad (k := k) (by omega) (by rw [List.getElem?_eq_getElem (by omega), ← xy0, Option.getD_some]; omega) | exact order_srt (by omega) (fun i hi => p24_1 i (by omega))
        exact ⟨by first | (rw [hF] <;> rfl) | rfl | (rw [hF]; simp only [Ending.returned.injEq, Value.slice.injEq, true_and, and_true]; first | omega | (simp; done)) | (rw [hF]; simp; omega), HH31.below⟩

set_option maxRecDepth 100000 in
set_option maxHeartbeats 4000000 in
theorem spec_l05Order (A0 : Option Addr) (c0 : Nat) (a0 : (List Int)) (a1 : Int) (w : World) (h0 : Sl eInt w (Old w) A0 c0 a0) (s0 : -1000 ≤ a1 ∧ a1 ≤ 1000) :
    Calls Try.prog 158 #[.slice A0 a0.length c0, .int .i64 a1] w fun e w' => e = .returned (.bool (orderB a0 a1)) ∧ Below w.heap.size w w' := by
  have l0 := h0.len
  have HH1 := Held.start Nob w
  refine enter (n := 43) Try.func158 rfl rfl rfl fun a_2 HE3 => ?_
  refine wp_seq ?_
  refine rg ?_
  refine pl_x HE3 HH1 (wt0 rfl) (x_assign rfl) rfl rfl fun a_4 HE5 => ?_
  refine wpList_nil ?_
  clear a_2 HE3
  refine nrm ?_
  refine wp_seq ?_
  refine wp_seq ?_
  refine rg ?_
  refine pl_x HE5 HH1 (wt0 rfl) (x_move rfl) rfl rfl fun a_6 HE7 => ?_
  refine pl_x HE7 HH1 (wt0 rfl) (x_len Try.underlying31 rfl) rfl rfl fun a_8 HE9 => ?_
  refine pl_x HE9 HH1 (wt0 rfl) (x_move rfl) rfl rfl fun a_10 HE11 => ?_
  refine pl_x HE11 HH1 (wt0 rfl) (x_neq rfl rfl) rfl rfl fun a_12 HE13 => ?_
  refine wpList_nil ?_
  clear a_4 HE5 a_6 HE7 a_8 HE9 a_10 HE11
  refine nrm ?_
  refine cnd_ne HE13 rfl (fun hc21 => ?_) (fun hc21 => ?_)
  · refine wp_seq ?_
    refine rg ?_
    refine pl_x HE13 HH1 (wt0 rfl) (x_assign rfl) rfl rfl fun a_14 HE15 => ?_
    refine wpList_nil ?_
    clear a_12 HE13
    refine nrm ?_
    refine wp_ret ?_
    refine (thn_ret ?_)
    refine ret1 HE15 rfl (rv_tmp rfl) ?_
    have hF : (orderB a0 a1) = false := by
      first | exact order_len (by omega) | exact order_miss (by omega : k < a0.length) (by rw [← xe0]; omega) | exact order_dup (by omega : k < a0.length) (by rw [← xe0]; exact hin) | exact order_all (by omega) (by have := p0_2; rwa [List.take_of_length_le (by omega)] at this) (by have := p0_1; rwa [List.take_of_length_le (by omega)] at this)
    exact ⟨by first | (rw [hF] <;> rfl) | rfl | (rw [hF]; simp only [Ending.returned.injEq, Value.slice.injEq, true_and, and_true]; first | omega | (simp; done)) | (rw [hF]; simp; omega), HH1.below⟩
  · refine wp_skip ?_
    refine nrm ?_
    refine wp_seq ?_
    refine rg ?_
    refine pl_x HE13 HH1 (wt0 rfl) (x_move rfl) rfl rfl fun a_16 HE17 => ?_
    refine pl_x HE17 HH1 (wt0 rfl) (x_len Try.underlying31 rfl) rfl rfl fun a_18 HE19 => ?_
    refine pl fun K_20 hK21 => ?_
    refine st_make (E := eBool) (x := false) (k := a0.length) HE19 HH1 ts_207 tv_4 rfl (fun _ => oB) rfl rfl rfl rfl (by omega) (by omega) (wt0 rfl) rfl fun q22 a_22 w' HE23 HH24 => hK21 _ _ ?_
    have hlq22 : (List.replicate a0.length false).length = a0.length := List.length_replicate
    refine pl_x HE23 HH24 (wt0 rfl) (x_assign rfl) rfl rfl fun a_25 HE26 => ?_
    refine wpList_nil ?_
    clear a_12 HE13 a_16 HE17 a_18 HE19 HH1 a_22 HE23 hK21 K_20
    refine nrm ?_
    refine wp_seq ?_
    refine wp_seq ?_
    refine rg ?_
    refine pl_x HE26 HH24 (wt0 rfl) (x_assign rfl) rfl rfl fun a_27 HE28 => ?_
    refine wpList_nil ?_
    clear a_25 HE26
    refine nrm ?_
    refine wp_block ?_
    refine lp (fun m a w' => ∃ (k : Nat), m = a0.length - k ∧ Env 43 [(6, .int .i64 (k : Int)), (0, .slice A0 (a0.length) c0), (1, .int .i64 (a1)), (5, .slice (some ⟨q22, 0, none⟩) ((List.replicate a0.length false).length) a0.length)] a ∧ Held Nob w [rSo eBool (fun b => b = q22) (some ⟨q22, 0, none⟩) a0.length (seenL a0.length (a0.take k))] w' ∧ (k ≤ a0.length) ∧ ((a0.take k).Nodup) ∧ (∀ x ∈ a0.take k, 0 ≤ x ∧ x < a1)) (a0.length - (0)) ?_ ?_
    · have E23 : seenL a0.length (a0.take 0) = (List.replicate a0.length false) := by
        rw [List.take_zero, seenL_nil]
      exact ⟨0, rfl, HE28.sub ⟨(lkI rfl (by first | rfl | omega | (simp [hc21]; done))), rfl, rfl, rfl, trivial⟩, ((HH24.sel [0] (by decide) rfl).to (by first | rfl | (rw [E23]; done) | (rw [E23]; rfl) | (simp only [E23]; done) | (simp only [E23]; rfl))), (by first | omega | assumption | (simp; done) | simp_all), (by simp), (by simp)⟩
    · rintro m a_29 w' ⟨k, rfl, HE30, HH31, p24_0, p24_1, p24_2⟩
      have hl0 := seenL_len a0.length (a0.take k)
      refine wp_seq ?_
      refine wp_seq ?_
      refine rg ?_
      refine pl_x HE30 HH31 (wt0 rfl) (x_move rfl) rfl rfl fun a_32 HE33 => ?_
      refine pl_x HE33 HH31 (wt0 rfl) (x_move rfl) rfl rfl fun a_34 HE35 => ?_
      refine pl_x HE35 HH31 (wt0 rfl) (x_len Try.underlying31 rfl) rfl rfl fun a_36 HE37 => ?_
      refine pl_x HE37 HH31 (wt0 rfl) (x_lss rfl rfl) rfl rfl fun a_38 HE39 => ?_
      refine wpList_nil ?_
      clear a_27 HE28 HH24 a_29 HE30 a_32 HE33 a_34 HE35 a_36 HE37
      refine nrm ?_
      refine cnd_d HE39 rfl (fun hc25 => ?_) (fun hc25 => ?_)
      · refine wp_skip ?_
        refine nrm ?_
        refine wp_seq ?_
        refine wp_block ?_
        refine wp_seq ?_
        refine wp_seq ?_
        refine rg ?_
        refine pl_x HE39 HH31 (wt0 rfl) (x_move rfl) rfl rfl fun a_40 HE41 => ?_
        refine pl_x HE41 HH31 (wt0 rfl) (x_move rfl) rfl rfl fun a_42 HE43 => ?_
        have ke26 : k < a0.length := by omega
        obtain ⟨be26, fe26, ese26, Ae26, Re26, De26⟩ := el_old h0 ke26
        obtain ⟨e26, xe26⟩ : ∃ x_, x_ = a0[k] := ⟨_, rfl⟩
        rw [← xe26] at Re26
        have Qe26 := Re26
        obtain ⟨rfl, ie26⟩ := Re26
        have je26 := ie26; unfold I64 at je26
        refine pl_x HE43 HH31 (wt0 rfl) (x_indexAddr ts_31 rfl rfl Ae26 rfl ke26) rfl rfl fun a_44 HE45 => ?_
        refine pl_x HE45 HH31 (wt0 rfl) (x_load1 tv_2 rfl (c_old (De26 0 _ rfl))) rfl rfl fun a_46 HE47 => ?_
        refine pl_x HE47 HH31 (wt0 rfl) (x_move rfl) rfl rfl fun a_48 HE49 => ?_
        refine pl_x HE49 HH31 (wt0 rfl) (x_sub rfl rfl (by exact ⟨by omega, by omega⟩)) rfl rfl fun a_50 HE51 => ?_
        refine pl fun K_52 hK53 => ?_
        refine st_call HE51 (wt0 rfl) rfl rfl rfl en_108 rfl rfl (spec_l00In e26 0 (a1 - 1) _ ) fun e w' hr => ?_
        obtain ⟨rfl, rfl⟩ := hr
        refine ⟨_, rfl, fun a_54 HE55 => hK53 _ _ ?_⟩
        refine pl_x HE55 HH31 (wt0 rfl) (x_not rfl) rfl rfl fun a_56 HE57 => ?_
        refine pl_x HE57 HH31 (wt0 rfl) (x_move rfl) rfl rfl fun a_58 HE59 => ?_
        rcases Bool.eq_false_or_eq_true ((withinB e26 0 (a1 - 1))) with hc28 | hc28
        · have hwb := withinB_true.1 hc28
          refine pl_x HE59 HH31 (wtT HE59 rfl rfl rfl (not_f hc28)) (x_move rfl) rfl rfl fun a_60 HE61 => ?_
          refine pl_x HE61 HH31 (wtT HE61 rfl rfl rfl (not_f hc28)) (x_move rfl) rfl rfl fun a_62 HE63 => ?_
          refine pl_x HE63 HH31 (wtT HE63 rfl rfl rfl (not_f hc28)) (x_move rfl) rfl rfl fun a_64 HE65 => ?_
          refine pl_x HE65 HH31 (wtT HE65 rfl rfl rfl (not_f hc28)) (x_indexAddr ts_31 rfl rfl Ae26 rfl ke26) rfl rfl fun a_66 HE67 => ?_
          refine pl_x HE67 HH31 (wtT HE67 rfl rfl rfl (not_f hc28)) (x_load1 tv_2 rfl (c_old (De26 0 _ rfl))) rfl rfl fun a_68 HE69 => ?_
          have ke29 : (e26).toNat < (List.replicate a0.length false).length := by omega
          refine pl_x HE69 HH31 (wtT HE69 rfl rfl rfl (not_f hc28)) (x_indexAddr ts_207 rfl rfl rfl (by omega) ke29) rfl rfl fun a_70 HE71 => ?_
          obtain ⟨y30, xy30⟩ : ∃ y_, y_ = (seenL a0.length (a0.take k))[(e26).toNat]'(by first | exact ke29 | (simp only [List.length_set]; exact ke29) | omega | (simp only [List.length_set]; omega) | (simp; omega)) := ⟨_, rfl⟩
          have hseen : y30 = decide (e26 ∈ a0.take k) := by rw [xy30]; exact seenL_at (by omega) _
          refine pl_x HE71 HH31 (wtT HE71 rfl rfl rfl (not_f hc28)) (x_load1 tv_4 rfl (c_ownBV 0 rfl (by first | exact ke29 | (simp only [List.length_set]; exact ke29) | omega | (simp only [List.length_set]; omega) | (simp; omega)) xy30.symm)) rfl rfl fun a_72 HE73 => ?_
          refine pl_x HE73 HH31 (wt0 rfl) (x_pickF rfl (not_f hc28) rfl) rfl rfl fun a_74 HE75 => ?_
          refine wpList_nil ?_
          clear a_38 HE39 a_40 HE41 a_42 HE43 a_44 HE45 a_46 HE47 a_48 HE49 a_50 HE51 a_54 HE55 a_56 HE57 a_58 HE59 a_60 HE61 a_62 HE63 a_64 HE65 a_66 HE67 a_68 HE69 a_70 HE71 a_72 HE73 hK53 K_52
          refine nrm ?_
          refine cnd_b HE75 rfl (fun hc31 => ?_) (fun hc31 => ?_)
          · have hin : e26 ∈ a0.take k := by rw [hseen] at hc31; simpa using hc31
            refine wp_seq ?_
            refine rg ?_
            refine pl_x HE75 HH31 (wt0 rfl) (x_assign rfl) rfl rfl fun a_76 HE77 => ?_
            refine wpList_nil ?_
            clear a_74 HE75
            refine nrm ?_
            refine wp_ret ?_
            refine (thn_ret (blk_ret (thn_ret (thn_ret (blk_ret (thn_ret ?_))))))
            refine ret1 HE77 rfl (rv_tmp rfl) ?_
            have hF : (orderB a0 a1) = false := by
              first | exact order_len (by omega) | exact order_miss (by omega : k < a0.length) (by rw [← xe26]; omega) | exact order_dup (by omega : k < a0.length) (by rw [← xe26]; exact hin) | exact order_all (by omega) (by have := p24_2; rwa [List.take_of_length_le (by omega)] at this) (by have := p24_1; rwa [List.take_of_length_le (by omega)] at this)
            exact ⟨by first | (rw [hF] <;> rfl) | rfl | (rw [hF]; simp only [Ending.returned.injEq, Value.slice.injEq, true_and, and_true]; first | omega | (simp; done)) | (rw [hF]; simp; omega), HH31.below⟩
          · have hnot : ¬ e26 ∈ a0.take k := by rw [hseen] at hc31; simpa using hc31
            refine wp_skip ?_
            refine nrm ?_
            refine rg ?_
            refine pl_x HE75 HH31 (wt0 rfl) (x_move rfl) rfl rfl fun a_78 HE79 => ?_
            refine pl_x HE79 HH31 (wt0 rfl) (x_move rfl) rfl rfl fun a_80 HE81 => ?_
            refine pl_x HE81 HH31 (wt0 rfl) (x_move rfl) rfl rfl fun a_82 HE83 => ?_
            refine pl_x HE83 HH31 (wt0 rfl) (x_indexAddr ts_31 rfl rfl Ae26 rfl ke26) rfl rfl fun a_84 HE85 => ?_
            refine pl_x HE85 HH31 (wt0 rfl) (x_load1 tv_2 rfl (c_old (De26 0 _ rfl))) rfl rfl fun a_86 HE87 => ?_
            have ke32 : (e26).toNat < (List.replicate a0.length false).length := by omega
            refine pl_x HE87 HH31 (wt0 rfl) (x_indexAddr ts_207 rfl rfl rfl (by omega) ke32) rfl rfl fun a_88 HE89 => ?_
            refine pl fun K_90 hK91 => ?_
            refine st_storeB 0 HE89 HH31 tv_4 rfl rfl rfl (by first | exact ke32 | (simp only [List.length_set]; exact ke32) | omega | (simp only [List.length_set]; omega) | (simp; omega)) (wt0 rfl) fun w' HH92 => hK91 _ _ ?_
            refine wpList_nil ?_
            clear a_74 HE75 a_78 HE79 a_80 HE81 a_82 HE83 a_84 HE85 a_86 HE87 HH31 hK91 K_90
            refine blk_n ?_
            refine nrm ?_
            refine rg ?_
            refine pl_x HE89 HH92 (wt0 rfl) (x_move rfl) rfl rfl fun a_93 HE94 => ?_
            refine pl_x HE94 HH92 (wt0 rfl) (x_add rfl rfl (by exact ⟨by omega, by omega⟩)) rfl rfl fun a_95 HE96 => ?_
            refine pl_x HE96 HH92 (wt0 rfl) (x_assign rfl) rfl rfl fun a_97 HE98 => ?_
            refine wpList_nil ?_
            clear a_88 HE89 a_93 HE94 a_95 HE96
            have E33 : seenL a0.length (a0.take (k + 1)) = ((seenL a0.length (a0.take k)).set ((e26).toNat) true) := by
              rw [List.take_succ_eq_append_getElem (by omega), ← xe26, seenL_set (by omega) (by omega)]
            exact nrm ⟨a0.length - (k + 1), (by omega), k + 1, rfl, HE98.sub ⟨(lkI rfl (by first | rfl | omega | (simp [hc21, p24_0, p24_1, p24_2, hc25, xe26, hc28, xy30, hc31]; done))), rfl, rfl, rfl, trivial⟩, ((HH92.sel [0] (by decide) rfl).to (by first | rfl | (rw [E33]; done) | (rw [E33]; rfl) | (simp only [E33]; done) | (simp only [E33]; rfl))), (by first | omega | assumption | (simp; done) | simp_all), (by rw [List.take_succ_eq_append_getElem (by omega), ← xe26]; exact nodup_snoc p24_1 hnot), (by rw [List.take_succ_eq_append_getElem (by omega), ← xe26]; intro x hx; rcases List.mem_append.1 hx with hx | hx; exact p24_2 x hx; rw [List.mem_singleton.1 hx]; omega)⟩
        · have hwb : ¬ (0 ≤ e26 ∧ e26 ≤ a1 - 1) := fun hq => by rw [withinB_true.2 hq] at hc28; cases hc28
          refine pl_no HE59 (wtF HE59 rfl rfl rfl (not_t hc28)) rfl rfl fun a_99 HE100 => ?_
          refine pl_no HE100 (wtF HE100 rfl rfl rfl (not_t hc28)) rfl rfl fun a_101 HE102 => ?_
          refine pl_no HE102 (wtF HE102 rfl rfl rfl (not_t hc28)) rfl rfl fun a_103 HE104 => ?_
          refine pl_no HE104 (wtF HE104 rfl rfl rfl (not_t hc28)) rfl rfl fun a_105 HE106 => ?_
          refine pl_no HE106 (wtF HE106 rfl rfl rfl (not_t hc28)) rfl rfl fun a_107 HE108 => ?_
          refine pl_no HE108 (wtF HE108 rfl rfl rfl (not_t hc28)) rfl rfl fun a_109 HE110 => ?_
          refine pl_no HE110 (wtF HE110 rfl rfl rfl (not_t hc28)) rfl rfl fun a_111 HE112 => ?_
          refine pl_x HE112 HH31 (wt0 rfl) (x_pickT rfl (not_t hc28) rfl) rfl rfl fun a_113 HE114 => ?_
          refine wpList_nil ?_
          clear a_38 HE39 a_40 HE41 a_42 HE43 a_44 HE45 a_46 HE47 a_48 HE49 a_50 HE51 a_54 HE55 a_56 HE57 a_58 HE59 a_99 HE100 a_101 HE102 a_103 HE104 a_105 HE106 a_107 HE108 a_109 HE110 a_111 HE112 hK53 K_52
          refine nrm ?_
          refine cndT HE114 rfl rfl ?_
          refine wp_seq ?_
          refine rg ?_
          refine pl_x HE114 HH31 (wt0 rfl) (x_assign rfl) rfl rfl fun a_115 HE116 => ?_
          refine wpList_nil ?_
          clear a_113 HE114
          refine nrm ?_
          refine wp_ret ?_
          refine (thn_ret (blk_ret (thn_ret (thn_ret (blk_ret (thn_ret ?_))))))
          refine ret1 HE116 rfl (rv_tmp rfl) ?_
          have hF : (orderB a0 a1) = false := by
            first | exact order_len (by omega) | exact order_miss (by omega : k < a0.length) (by rw [← xe26]; omega) | exact order_dup (by omega : k < a0.length) (by rw [← xe26]; exact hin) | exact order_all (by omega) (by have := p24_2; rwa [List.take_of_length_le (by omega)] at this) (by have := p24_1; rwa [List.take_of_length_le (by omega)] at this)
          exact ⟨by first | (rw [hF] <;> rfl) | rfl | (rw [hF]; simp only [Ending.returned.injEq, Value.slice.injEq, true_and, and_true]; first | omega | (simp; done)) | (rw [hF]; simp; omega), HH31.below⟩
      · refine wp_exit ?_
        refine (thn_exit (thn_exit (blk_hit ?_)))
        refine nrm ?_
        refine wp_seq ?_
        refine rg ?_
        refine pl_x HE39 HH31 (wt0 rfl) (x_assign rfl) rfl rfl fun a_117 HE118 => ?_
        refine wpList_nil ?_
        clear a_38 HE39
        refine nrm ?_
        refine wp_ret ?_
        refine ret1 HE118 rfl (rv_tmp rfl) ?_
        have hF : (orderB a0 a1) = true := by
          first | exact order_len (by omega) | exact order_miss (by omega : k < a0.length) (by rw [← xe0]; omega) | exact order_dup (by omega : k < a0.length) (by rw [← xe0]; exact hin) | exact order_all (by omega) (by have := p24_2; rwa [List.take_of_length_le (by omega)] at this) (by have := p24_1; rwa [List.take_of_length_le (by omega)] at this)
        exact ⟨by first | (rw [hF] <;> rfl) | rfl | (rw [hF]; simp only [Ending.returned.injEq, Value.slice.injEq, true_and, and_true]; first | omega | (simp; done)) | (rw [hF]; simp; omega), HH31.below⟩

set_option maxRecDepth 100000 in
set_option maxHeartbeats 4000000 in
theorem impl_MapRegisters (A0 : Option Addr) (c0 : Nat) (a0 : (List tInstr)) (A1 : Option Addr) (c1 : Nat) (a1 : (List Int)) (w : World) (h0 : Sl eInstr w (Old w) A0 c0 a0) (h1 : Sl eInt w (Old w) A1 c1 a1) :
    Calls Try.prog 75 #[.slice A0 a0.length c0, .slice A1 a1.length c1] w fun e w' => ∃ (A0' : Option Addr) (c0' : Nat), e = .returned (.tuple #[.slice A0' (mapRegs a0 a1).1.length c0', .int .i64 (mapRegs a0 a1).2]) ∧ So eInstr w' (Fr w w') A0' c0' (mapRegs a0 a1).1 ∧ Below w.heap.size w w' := by
  have l0 := h0.len
  have l1 := h1.len
  have HH1 := Held.start Nob w
  refine enter (n := 35) Try.func75 rfl rfl rfl fun a_2 HE3 => ?_
  refine wp_seq ?_
  refine rg ?_
  refine pl_x HE3 HH1 (wt0 rfl) (x_assign rfl) rfl rfl fun a_4 HE5 => ?_
  refine pl_x HE5 HH1 (wt0 rfl) (x_assign rfl) rfl rfl fun a_6 HE7 => ?_
  refine wpList_nil ?_
  clear a_2 HE3 a_4 HE5
  refine nrm ?_
  refine wp_seq ?_
  refine wp_seq ?_
  refine rg ?_
  refine pl_x HE7 HH1 (wt0 rfl) (x_move rfl) rfl rfl fun a_8 HE9 => ?_
  refine pl fun K_10 hK11 => ?_
  refine st_call HE9 (wt0 rfl) rfl rfl rfl en_85 rfl rfl (impl_ValidProgram _ _ a0 _ (HH1.old h0)) fun e w' hr => ?_
  obtain ⟨rfl, hbr21⟩ := hr
  have HH12 := HH1.on hbr21
  refine ⟨_, rfl, fun a_13 HE14 => hK11 _ _ ?_⟩
  refine pl_x HE14 HH12 (wt0 rfl) (x_not rfl) rfl rfl fun a_15 HE16 => ?_
  refine wpList_nil ?_
  clear a_6 HE7 HH1 a_8 HE9 a_13 HE14 hK11 K_10
  refine nrm ?_
  refine cnd_nb HE16 rfl (fun hc22 => ?_) (fun hc22 => ?_)
  · refine wp_seq ?_
    refine rg ?_
    refine pl_x HE16 HH12 (wt0 rfl) (x_assign rfl) rfl rfl fun a_17 HE18 => ?_
    refine pl_x HE18 HH12 (wt0 rfl) (x_assign rfl) rfl rfl fun a_19 HE20 => ?_
    refine wpList_nil ?_
    clear a_15 HE16 a_17 HE18
    refine nrm ?_
    refine wp_ret ?_
    refine (thn_ret ?_)
    refine ret2 HE20 rfl (rv_tmp rfl) (rv_tmp rfl) ?_
    have hF : (mapRegs a0 a1) = ([], 1) := by
      first | (simp [mapRegs, hc22]; done) | (unfold mapRegs; rw [if_pos ‹_›, if_pos ‹_›, ← mpTo_end _ _ (by omega : a0.length ≤ k)])
    exact ⟨none, 0, by first | (rw [hF] <;> rfl) | rfl | (rw [hF]; simp only [Ending.returned.injEq, Value.slice.injEq, true_and, and_true]; first | omega | (simp; done)) | (rw [hF]; simp; omega), by rw [hF]; exact (So.nil (Nat.zero_le _)), HH12.below⟩
  · have hok := validProg_okP hc22
    have hlen := hok.1
    refine wp_skip ?_
    refine nrm ?_
    refine wp_seq ?_
    refine wp_seq ?_
    refine rg ?_
    refine pl_x HE16 HH12 (wt0 rfl) (x_move rfl) rfl rfl fun a_21 HE22 => ?_
    refine pl fun K_23 hK24 => ?_
    refine st_call HE22 (wt0 rfl) rfl rfl rfl en_159 rfl rfl (impl_isOrder _ _ a1 24 _ (HH12.old h1) (by omega)) fun e w' hr => ?_
    obtain ⟨rfl, hbr23⟩ := hr
    have HH25 := HH12.on hbr23
    refine ⟨_, rfl, fun a_26 HE27 => hK24 _ _ ?_⟩
    refine pl_x HE27 HH25 (wt0 rfl) (x_not rfl) rfl rfl fun a_28 HE29 => ?_
    refine wpList_nil ?_
    clear a_15 HE16 HH12 a_21 HE22 a_26 HE27 hK24 K_23
    refine nrm ?_
    refine cnd_nb HE29 rfl (fun hc24 => ?_) (fun hc24 => ?_)
    · refine wp_seq ?_
      refine rg ?_
      refine pl_x HE29 HH25 (wt0 rfl) (x_assign rfl) rfl rfl fun a_30 HE31 => ?_
      refine pl_x HE31 HH25 (wt0 rfl) (x_assign rfl) rfl rfl fun a_32 HE33 => ?_
      refine wpList_nil ?_
      clear a_28 HE29 a_30 HE31
      refine nrm ?_
      refine wp_ret ?_
      refine (thn_ret ?_)
      refine ret2 HE33 rfl (rv_tmp rfl) (rv_tmp rfl) ?_
      have hF : (mapRegs a0 a1) = ([], 2) := by
        first | (simp [mapRegs, hc22, hc24]; done) | (unfold mapRegs; rw [if_pos ‹_›, if_pos ‹_›, ← mpTo_end _ _ (by omega : a0.length ≤ k)])
      exact ⟨none, 0, by first | (rw [hF] <;> rfl) | rfl | (rw [hF]; simp only [Ending.returned.injEq, Value.slice.injEq, true_and, and_true]; first | omega | (simp; done)) | (rw [hF]; simp; omega), by rw [hF]; exact (So.nil (Nat.zero_le _)), HH25.below⟩
    · obtain ⟨ho1, ho2, ho3⟩ := (order_iff a1 24).1 hc24
      refine wp_skip ?_
      refine nrm ?_
      refine wp_seq ?_
      refine rg ?_
      refine pl_x HE29 HH25 (wt0 rfl) (x_move rfl) rfl rfl fun a_34 HE35 => ?_
      refine pl fun K_36 hK37 => ?_
      refine st_call HE35 (wt0 rfl) rfl rfl rfl en_160 rfl rfl (Clone_Instr _ _ a0 _ (HH25.old h0) (by omega)) fun e w' hr => ?_
      obtain ⟨Ar25_0, cr25_0, rfl, hor25_0, hbr25⟩ := hr
      obtain ⟨Sr25, HH38⟩ := HH25.newS hbr25 hor25_0
      refine ⟨_, rfl, fun a_39 HE40 => hK37 _ _ ?_⟩
      refine pl_x HE40 HH38 (wt0 rfl) (x_assign rfl) rfl rfl fun a_41 HE42 => ?_
      refine wpList_nil ?_
      clear a_28 HE29 HH25 a_34 HE35 a_39 HE40 hK37 K_36
      refine nrm ?_
      refine wp_seq ?_
      refine wp_seq ?_
      refine rg ?_
      refine pl_x HE42 HH38 (wt0 rfl) (x_move rfl) rfl rfl fun a_43 HE44 => ?_
      refine pl_x HE44 HH38 (wt0 rfl) (x_len Try.underlying24 rfl) rfl rfl fun a_45 HE46 => ?_
      refine pl_x HE46 HH38 (wt0 rfl) (x_move rfl) rfl rfl fun a_47 HE48 => ?_
      refine wpList_nil ?_
      clear a_41 HE42 a_43 HE44 a_45 HE46
      refine nrm ?_
      refine wp_block ?_
      refine lp (fun m a w' => ∃ (k : Nat) (S_6 : Nat → Prop), m = a0.length - k ∧ Env 35 [(18, .int .i64 (k : Int)), (1, .slice A1 (a1.length) c1), (6, .slice Ar25_0 (a0.length) cr25_0), (17, .int .i64 ((a0.length : Int)))] a ∧ Held Nob w [rSo eInstr S_6 Ar25_0 cr25_0 (mpTo (mapReg a1) a0 k)] w' ∧ (k ≤ a0.length)) (a0.length - (0)) ?_ ?_
      · have E26 : mpTo (mapReg a1) a0 0 = a0 := by
          rw [mpTo_zero]
        exact ⟨0, Sr25, rfl, HE48.sub ⟨(lkI rfl (by first | rfl | omega | (simp [hc22, hc24]; done))), rfl, rfl, rfl, trivial⟩, ((HH38.sel [0] (by decide) rfl).to (by first | rfl | (rw [E26]; done) | (rw [E26]; rfl) | (simp only [E26]; done) | (simp only [E26]; rfl))), (by first | omega | assumption | (simp; done) | simp_all)⟩
      · rintro m a_49 w' ⟨k, S_6, rfl, HE50, HH51, p27_0⟩
        have hl0 := mpTo_len (mapReg a1) a0 k
        have hl1 : ([] ++ a0).length = a0.length := rfl
        refine wp_seq ?_
        refine rg ?_
        refine pl_x HE50 HH51 (wt0 rfl) (x_lss rfl rfl) rfl rfl fun a_52 HE53 => ?_
        refine wpList_nil ?_
        clear a_47 HE48 HH38 a_49 HE50
        refine nrm ?_
        refine wp_seq ?_
        refine cnd_d HE53 rfl (fun hc28 => ?_) (fun hc28 => ?_)
        · refine wp_skip ?_
          refine nrm ?_
          refine wp_seq ?_
          refine wp_block ?_
          refine wp_seq ?_
          refine rg ?_
          refine pl_x HE53 HH51 (wt0 rfl) (x_move rfl) rfl rfl fun a_54 HE55 => ?_
          refine pl_x HE55 HH51 (wt0 rfl) (x_assign rfl) rfl rfl fun a_56 HE57 => ?_
          refine wpList_nil ?_
          clear a_52 HE53 a_54 HE55
          refine nrm ?_
          refine rg ?_
          refine pl_x HE57 HH51 (wt0 rfl) (x_move rfl) rfl rfl fun a_58 HE59 => ?_
          refine pl_x HE59 HH51 (wt0 rfl) (x_move rfl) rfl rfl fun a_60 HE61 => ?_
          refine pl_x HE61 HH51 (wt0 rfl) (x_move rfl) rfl rfl fun a_62 HE63 => ?_
          refine pl_x HE63 HH51 (wt0 rfl) (x_move rfl) rfl rfl fun a_64 HE65 => ?_
          refine pl_x HE65 HH51 (wt0 rfl) (x_move rfl) rfl rfl fun a_66 HE67 => ?_
          have ke29 : k < List.length (mpTo (mapReg a1) a0 k) := by rw [mpTo_len]; omega
          have ne29 : k < a0.length := by omega
          obtain ⟨be29, fe29, ese29, Te29, rfl, Re29, Ze29, HH68⟩ := HH51.open ke29
          obtain ⟨e29, xe29⟩ : ∃ x_, x_ = (mpTo (mapReg a1) a0 k)[k] := ⟨_, rfl⟩
          rw [← xe29] at Re29
          rw [← xe29] at HH68
          obtain ⟨rfl, ge29_0, ge29_1, ge29_2, ge29_3⟩ := shape_Instr Re29
          clear Re29
          have je29_0 := ge29_0; unfold I64 at je29_0
          have je29_1 := ge29_1; unfold I64 at je29_1
          have je29_2 := ge29_2; unfold I64 at je29_2
          have je29_3 := ge29_3; unfold I64 at je29_3
          have hm0 : e29 = a0[k] := by rw [xe29]; exact mpTo_at _ _ (by omega) _
          have bbe29 := validProg_reg ‹_› e29 (by rw [hm0]; exact List.getElem_mem _)
          refine pl_x HE67 HH68 (wt0 rfl) (x_indexAddr ts_24 rfl rfl rfl rfl ne29) rfl rfl fun a_69 HE70 => ?_
          refine pl_x HE70 HH68 (wt0 rfl) (x_fieldAddr fa_116_1 rfl) rfl rfl fun a_71 HE72 => ?_
          refine pl_x HE72 HH68 (wt0 rfl) (x_load1 tv_2 rfl (c_foc (E := eInstr) (off := fe29) (k := k) (j := 1) 0 rfl rfl)) rfl rfl fun a_73 HE74 => ?_
          have ke30 : (e29.2.1).toNat < a1.length := by omega
          obtain ⟨be30, fe30, ese30, Ae30, Re30, De30⟩ := el_old h1 ke30
          obtain ⟨e30, xe30⟩ : ∃ x_, x_ = a1[(e29.2.1).toNat] := ⟨_, rfl⟩
          rw [← xe30] at Re30
          have Qe30 := Re30
          obtain ⟨rfl, ie30⟩ := Re30
          have je30 := ie30; unfold I64 at je30
          have hr0 : a1[(e29.2.1).toNat]?.getD 0 = e30 := by rw [List.getElem?_eq_getElem ke30, xe30]; rfl
          refine pl_x HE74 HH68 (wt0 rfl) (x_indexAddr ts_31 rfl rfl Ae30 (by omega) ke30) rfl rfl fun a_75 HE76 => ?_
          refine pl_x HE76 HH68 (wt0 rfl) (x_load1 tv_2 rfl (c_old (De30 0 _ rfl))) rfl rfl fun a_77 HE78 => ?_
          refine pl_x HE78 HH68 (wt0 rfl) (x_indexAddr ts_24 rfl rfl rfl rfl ne29) rfl rfl fun a_79 HE80 => ?_
          refine pl_x HE80 HH68 (wt0 rfl) (x_fieldAddr fa_116_1 rfl) rfl rfl fun a_81 HE82 => ?_
          refine pl fun K_83 hK84 => ?_
          refine st_storeF (j := 1) 0 HE82 HH68 tv_2 rfl rfl rfl rfl rfl rfl (wt0 rfl) fun w' HH85 => hK84 _ _ ?_
          refine wpList_nil ?_
          clear a_56 HE57 a_58 HE59 a_60 HE61 a_62 HE63 a_64 HE65 HH51 a_66 HE67 a_69 HE70 a_71 HE72 a_73 HE74 a_75 HE76 a_77 HE78 a_79 HE80 HH68 hK84 K_83
          refine blk_n ?_
          refine nrm ?_
          refine rg ?_
          refine pl_x HE82 HH85 (wt0 rfl) (x_add rfl rfl (by exact ⟨by omega, by omega⟩)) rfl rfl fun a_86 HE87 => ?_
          refine pl_x HE87 HH85 (wt0 rfl) (x_move rfl) rfl rfl fun a_88 HE89 => ?_
          refine wpList_nil ?_
          clear a_81 HE82 a_86 HE87
          have HH90 := HH85.flatO (E := eInstr) (cs := [.int .i64 (e29.1), .int .i64 (e30), .int .i64 (e29.2.2.1), .int .i64 (e29.2.2.2)]) (x := (e29.1, e30, e29.2.2.1, e29.2.2.2)) (fun _ => (oPrN (oI (by exact ⟨by omega, by omega⟩)) (oPrN (oI (by exact ⟨by omega, by omega⟩)) (oPrN (oI (by exact ⟨by omega, by omega⟩)) (oI (by exact ⟨by omega, by omega⟩))))))
          have HH91 := HH90.sel [1, 0, 2] (by decide) rfl
          have HH92 := HH91.shut
          obtain ⟨S31, HH93⟩ : ∃ S, Held Nob w (rSo eInstr S (some ⟨be29, fe29, none⟩) cr25_0 ((mpTo (mapReg a1) a0 k).set k (e29.1, e30, e29.2.2.1, e29.2.2.2)) :: _) _ := ⟨_, HH92⟩
          have E32 : mpTo (mapReg a1) a0 (k + 1) = ((mpTo (mapReg a1) a0 k).set k (e29.1, e30, e29.2.2.1, e29.2.2.2)) := by
            rw [mpTo_succ _ _ (by omega)]; congr 1; unfold mapReg; grind
          exact nrm ⟨a0.length - (k + 1), (by omega), k + 1, S31, rfl, HE89.sub ⟨(lkI rfl (by first | rfl | omega | (simp [hc22, hc24, p27_0, hc28, xe29, xe30]; done))), rfl, rfl, rfl, trivial⟩, ((HH93.sel [0] (by decide) rfl).to (by first | rfl | (rw [E32]; done) | (rw [E32]; rfl) | (simp only [E32]; done) | (simp only [E32]; rfl))), (by first | omega | assumption | (simp; done) | simp_all)⟩
        · refine wp_exit ?_
          refine (thn_exit (thn_exit (blk_hit ?_)))
          refine nrm ?_
          refine wp_seq ?_
          refine rg ?_
          refine pl_x HE53 HH51 (wt0 rfl) (x_move rfl) rfl rfl fun a_94 HE95 => ?_
          refine pl_x HE95 HH51 (wt0 rfl) (x_assign rfl) rfl rfl fun a_96 HE97 => ?_
          refine pl_x HE97 HH51 (wt0 rfl) (x_assign rfl) rfl rfl fun a_98 HE99 => ?_
          refine wpList_nil ?_
          clear a_52 HE53 a_94 HE95 a_96 HE97
          refine nrm ?_
          refine wp_ret ?_
          refine ret2 HE99 rfl (rv_tmp rfl) (rv_tmp rfl) ?_
          have hF : (mapRegs a0 a1) = (mpTo (mapReg a1) a0 k, 0) := by
            first | (simp [mapRegs, hc22, hc24, p27_0, hc28]; done) | (unfold mapRegs; rw [if_pos ‹_›, if_pos ‹_›, ← mpTo_end _ _ (by omega : a0.length ≤ k)])
          exact ⟨Ar25_0, cr25_0, by first | (rw [hF] <;> rfl) | rfl | (rw [hF]; simp only [Ending.returned.injEq, Value.slice.injEq, true_and, and_true]; first | omega | (simp; done)) | (rw [hF]; simp; omega), by rw [hF]; exact (HH51.so (i := 0) rfl), HH51.below⟩

set_option maxRecDepth 100000 in
set_option maxHeartbeats 4000000 in
theorem spec_MapRegisters (A0 : Option Addr) (c0 : Nat) (a0 : (List tInstr)) (A1 : Option Addr) (c1 : Nat) (a1 : (List Int)) (w : World) (h0 : Sl eInstr w (Old w) A0 c0 a0) (h1 : Sl eInt w (Old w) A1 c1 a1) :
    Calls Try.prog 74 #[.slice A0 a0.length c0, .slice A1 a1.length c1] w fun e w' => ∃ (A0' : Option Addr) (c0' : Nat), e = .returned (.tuple #[.slice A0' (mapRegs a0 a1).1.length c0', .int .i64 (mapRegs a0 a1).2]) ∧ So eInstr w' (Fr w w') A0' c0' (mapRegs a0 a1).1 ∧ Below w.heap.size w w' := by
  have l0 := h0.len
  have l1 := h1.len
  have HH1 := Held.start Nob w
  refine enter (n := 36) Try.func74 rfl rfl rfl fun a_2 HE3 => ?_
  refine wp_seq ?_
  refine rg ?_
  refine pl_x HE3 HH1 (wt0 rfl) (x_assign rfl) rfl rfl fun a_4 HE5 => ?_
  refine pl_x HE5 HH1 (wt0 rfl) (x_assign rfl) rfl rfl fun a_6 HE7 => ?_
  refine wpList_nil ?_
  clear a_2 HE3 a_4 HE5
  refine nrm ?_
  refine wp_seq ?_
  refine wp_seq ?_
  refine rg ?_
  refine pl_x HE7 HH1 (wt0 rfl) (x_move rfl) rfl rfl fun a_8 HE9 => ?_
  refine pl fun K_10 hK11 => ?_
  refine st_call HE9 (wt0 rfl) rfl rfl rfl en_81 rfl rfl (spec_l07Is _ _ a0 _ (HH1.old h0)) fun e w' hr => ?_
  obtain ⟨rfl, hbr21⟩ := hr
  have HH12 := HH1.on hbr21
  refine ⟨_, rfl, fun a_13 HE14 => hK11 _ _ ?_⟩
  refine pl_x HE14 HH12 (wt0 rfl) (x_not rfl) rfl rfl fun a_15 HE16 => ?_
  refine wpList_nil ?_
  clear a_6 HE7 HH1 a_8 HE9 a_13 HE14 hK11 K_10
  refine nrm ?_
  refine cnd_nb HE16 rfl (fun hc22 => ?_) (fun hc22 => ?_)
  · refine wp_seq ?_
    refine rg ?_
    refine pl_x HE16 HH12 (wt0 rfl) (x_assign rfl) rfl rfl fun a_17 HE18 => ?_
    refine pl_x HE18 HH12 (wt0 rfl) (x_assign rfl) rfl rfl fun a_19 HE20 => ?_
    refine wpList_nil ?_
    clear a_15 HE16 a_17 HE18
    refine nrm ?_
    refine wp_ret ?_
    refine (thn_ret ?_)
    refine ret2 HE20 rfl (rv_tmp rfl) (rv_tmp rfl) ?_
    have hF : (mapRegs a0 a1) = ([], 1) := by
      first | (simp [mapRegs, hc22]; done) | (unfold mapRegs; rw [if_pos ‹_›, if_pos ‹_›, ← mpTo_end _ _ (by omega : a0.length ≤ k)])
    exact ⟨none, 0, by first | (rw [hF] <;> rfl) | rfl | (rw [hF]; simp only [Ending.returned.injEq, Value.slice.injEq, true_and, and_true]; first | omega | (simp; done)) | (rw [hF]; simp; omega), by rw [hF]; exact (So.nil (Nat.zero_le _)), HH12.below⟩
  · have hok := validProg_okP hc22
    have hlen := hok.1
    refine wp_skip ?_
    refine nrm ?_
    refine wp_seq ?_
    refine wp_seq ?_
    refine rg ?_
    refine pl_x HE16 HH12 (wt0 rfl) (x_move rfl) rfl rfl fun a_21 HE22 => ?_
    refine pl fun K_23 hK24 => ?_
    refine st_call HE22 (wt0 rfl) rfl rfl rfl en_158 rfl rfl (spec_l05Order _ _ a1 24 _ (HH12.old h1) (by omega)) fun e w' hr => ?_
    obtain ⟨rfl, hbr23⟩ := hr
    have HH25 := HH12.on hbr23
    refine ⟨_, rfl, fun a_26 HE27 => hK24 _ _ ?_⟩
    refine pl_x HE27 HH25 (wt0 rfl) (x_not rfl) rfl rfl fun a_28 HE29 => ?_
    refine wpList_nil ?_
    clear a_15 HE16 HH12 a_21 HE22 a_26 HE27 hK24 K_23
    refine nrm ?_
    refine cnd_nb HE29 rfl (fun hc24 => ?_) (fun hc24 => ?_)
    · refine wp_seq ?_
      refine rg ?_
      refine pl_x HE29 HH25 (wt0 rfl) (x_assign rfl) rfl rfl fun a_30 HE31 => ?_
      refine pl_x HE31 HH25 (wt0 rfl) (x_assign rfl) rfl rfl fun a_32 HE33 => ?_
      refine wpList_nil ?_
      clear a_28 HE29 a_30 HE31
      refine nrm ?_
      refine wp_ret ?_
      refine (thn_ret ?_)
      refine ret2 HE33 rfl (rv_tmp rfl) (rv_tmp rfl) ?_
      have hF : (mapRegs a0 a1) = ([], 2) := by
        first | (simp [mapRegs, hc22, hc24]; done) | (unfold mapRegs; rw [if_pos ‹_›, if_pos ‹_›, ← mpTo_end _ _ (by omega : a0.length ≤ k)])
      exact ⟨none, 0, by first | (rw [hF] <;> rfl) | rfl | (rw [hF]; simp only [Ending.returned.injEq, Value.slice.injEq, true_and, and_true]; first | omega | (simp; done)) | (rw [hF]; simp; omega), by rw [hF]; exact (So.nil (Nat.zero_le _)), HH25.below⟩
    · obtain ⟨ho1, ho2, ho3⟩ := (order_iff a1 24).1 hc24
      refine wp_skip ?_
      refine nrm ?_
      refine wp_seq ?_
      refine rg ?_
      refine pl fun K_34 hK35 => ?_
      refine st_lit (m := 0) (cs := []) (e := 116) HE29 HH25 (run_lit ts_24 HE29 (vs := []) rfl rfl (by simp [Value.cells]) rfl (by decide)) (wt0 rfl) rfl rfl fun q25 a_36 w' HE37 HH38 => hK35 _ _ ?_
      refine pl_x HE37 HH38 (wt0 rfl) (x_move rfl) rfl rfl fun a_39 HE40 => ?_
      refine pl fun K_41 hK42 => ?_
      have HH43 := Held.vecFlat (E := eInstr) (xs := []) (css := []) HH38 rfl (Nat.zero_le _) (fun i x hx => by simp at hx)
      refine st_appS flat_Instr HE40 HH43 ts_24 [0] (by decide) rfl rfl rfl (HH43.old h0) (by unfold maxLen; first | omega | (simp; done) | (simp; omega)) (by first | omega | (simp; done) | (simp; omega)) (wt0 rfl) rfl fun A26 c27 S28 a_44 w' HE45 HH46 => hK42 _ _ ?_
      have lA26 : (([] : List tInstr) ++ a0).length = List.length ([] : List tInstr) + List.length a0 := List.length_append
      refine pl_x HE45 HH46 (wt0 rfl) (x_assign rfl) rfl rfl fun a_47 HE48 => ?_
      refine wpList_nil ?_
      clear a_28 HE29 HH25 a_36 HE37 K_34 hK35 HH38 a_39 HE40 HH43 a_44 HE45 hK42 K_41
      refine nrm ?_
      refine wp_seq ?_
      refine wp_seq ?_
      refine rg ?_
      refine pl_x HE48 HH46 (wt0 rfl) (x_assign rfl) rfl rfl fun a_49 HE50 => ?_
      refine wpList_nil ?_
      clear a_47 HE48
      refine nrm ?_
      refine wp_block ?_
      have HH51 := HH46.vecSo
      refine lp (fun m a w' => ∃ (k : Nat) (S_6 : Nat → Prop), m = a0.length - k ∧ Env 36 [(7, .int .i64 (k : Int)), (0, .slice A0 (a0.length) c0), (1, .slice A1 (a1.length) c1), (6, .slice A26 ((([] : List tInstr) ++ a0).length) c27)] a ∧ Held Nob w [rSo eInstr S_6 A26 c27 (mpTo (mapReg a1) a0 k)] w' ∧ (k ≤ a0.length)) (a0.length - (0)) ?_ ?_
      · have E29 : mpTo (mapReg a1) a0 0 = (([] : List tInstr) ++ a0) := by
          rw [mpTo_zero]; rfl
        exact ⟨0, S28, rfl, HE50.sub ⟨(lkI rfl (by first | rfl | omega | (simp [hc22, hc24]; done))), rfl, rfl, rfl, trivial⟩, ((HH51.sel [0] (by decide) rfl).to (by first | rfl | (rw [E29]; done) | (rw [E29]; rfl) | (simp only [E29]; done) | (simp only [E29]; rfl))), (by first | omega | assumption | (simp; done) | simp_all)⟩
      · rintro m a_52 w' ⟨k, S_6, rfl, HE53, HH54, p30_0⟩
        have hl0 := mpTo_len (mapReg a1) a0 k
        have hl1 : ([] ++ a0).length = a0.length := rfl
        refine wp_seq ?_
        refine wp_seq ?_
        refine rg ?_
        refine pl_x HE53 HH54 (wt0 rfl) (x_move rfl) rfl rfl fun a_55 HE56 => ?_
        refine pl_x HE56 HH54 (wt0 rfl) (x_move rfl) rfl rfl fun a_57 HE58 => ?_
        refine pl_x HE58 HH54 (wt0 rfl) (x_len Try.underlying24 rfl) rfl rfl fun a_59 HE60 => ?_
        refine pl_x HE60 HH54 (wt0 rfl) (x_lss rfl rfl) rfl rfl fun a_61 HE62 => ?_
        refine wpList_nil ?_
        clear HH46 a_49 HE50 HH51 a_52 HE53 a_55 HE56 a_57 HE58 a_59 HE60
        refine nrm ?_
        refine cnd_d HE62 rfl (fun hc31 => ?_) (fun hc31 => ?_)
        · refine wp_skip ?_
          refine nrm ?_
          refine wp_seq ?_
          refine wp_block ?_
          refine rg ?_
          refine pl_x HE62 HH54 (wt0 rfl) (x_move rfl) rfl rfl fun a_63 HE64 => ?_
          refine pl_x HE64 HH54 (wt0 rfl) (x_move rfl) rfl rfl fun a_65 HE66 => ?_
          refine pl_x HE66 HH54 (wt0 rfl) (x_move rfl) rfl rfl fun a_67 HE68 => ?_
          refine pl_x HE68 HH54 (wt0 rfl) (x_move rfl) rfl rfl fun a_69 HE70 => ?_
          refine pl_x HE70 HH54 (wt0 rfl) (x_move rfl) rfl rfl fun a_71 HE72 => ?_
          have ke32 : k < a0.length := by omega
          obtain ⟨be32, fe32, ese32, Ae32, Re32, De32⟩ := el_old h0 ke32
          obtain ⟨e32, xe32⟩ : ∃ x_, x_ = a0[k] := ⟨_, rfl⟩
          rw [← xe32] at Re32
          have Qe32 := Re32
          obtain ⟨rfl, ge32_0, ge32_1, ge32_2, ge32_3⟩ := shape_Instr Re32
          have je32_0 := ge32_0; unfold I64 at je32_0
          have je32_1 := ge32_1; unfold I64 at je32_1
          have je32_2 := ge32_2; unfold I64 at je32_2
          have je32_3 := ge32_3; unfold I64 at je32_3
          have hm1 : e32 = a0[k] := xe32
          have bbe32 := validProg_reg ‹_› e32 (by rw [xe32]; exact List.getElem_mem _)
          refine pl_x HE72 HH54 (wt0 rfl) (x_indexAddr ts_24 rfl rfl Ae32 rfl ke32) rfl rfl fun a_73 HE74 => ?_
          refine pl_x HE74 HH54 (wt0 rfl) (x_fieldAddr fa_116_1 rfl) rfl rfl fun a_75 HE76 => ?_
          refine pl_x HE76 HH54 (wt0 rfl) (x_load1 tv_2 rfl (c_old (De32 1 _ rfl))) rfl rfl fun a_77 HE78 => ?_
          have ke33 : (e32.2.1).toNat < a1.length := by omega
          obtain ⟨be33, fe33, ese33, Ae33, Re33, De33⟩ := el_old h1 ke33
          obtain ⟨e33, xe33⟩ : ∃ x_, x_ = a1[(e32.2.1).toNat] := ⟨_, rfl⟩
          rw [← xe33] at Re33
          have Qe33 := Re33
          obtain ⟨rfl, ie33⟩ := Re33
          have je33 := ie33; unfold I64 at je33
          have hr0 : a1[(e32.2.1).toNat]?.getD 0 = e33 := by rw [List.getElem?_eq_getElem ke33, xe33]; rfl
          refine pl_x HE78 HH54 (wt0 rfl) (x_indexAddr ts_31 rfl rfl Ae33 (by omega) ke33) rfl rfl fun a_79 HE80 => ?_
          refine pl_x HE80 HH54 (wt0 rfl) (x_load1 tv_2 rfl (c_old (De33 0 _ rfl))) rfl rfl fun a_81 HE82 => ?_
          have ke34 : k < List.length (mpTo (mapReg a1) a0 k) := by rw [mpTo_len]; omega
          have ne34 : k < (([] : List tInstr) ++ a0).length := by omega
          obtain ⟨be34, fe34, ese34, Te34, rfl, Re34, Ze34, HH83⟩ := HH54.open ke34
          obtain ⟨e34, xe34⟩ : ∃ x_, x_ = (mpTo (mapReg a1) a0 k)[k] := ⟨_, rfl⟩
          rw [← xe34] at Re34
          rw [← xe34] at HH83
          obtain ⟨rfl, ge34_0, ge34_1, ge34_2, ge34_3⟩ := shape_Instr Re34
          clear Re34
          have je34_0 := ge34_0; unfold I64 at je34_0
          have je34_1 := ge34_1; unfold I64 at je34_1
          have je34_2 := ge34_2; unfold I64 at je34_2
          have je34_3 := ge34_3; unfold I64 at je34_3
          have hm0 : e34 = a0[k] := by rw [xe34]; exact mpTo_at _ _ (by omega) _
          have bbe34 := validProg_reg ‹_› e34 (by rw [hm0]; exact List.getElem_mem _)
          refine pl_x HE82 HH83 (wt0 rfl) (x_indexAddr ts_24 rfl rfl rfl rfl ne34) rfl rfl fun a_84 HE85 => ?_
          refine pl_x HE85 HH83 (wt0 rfl) (x_fieldAddr fa_116_1 rfl) rfl rfl fun a_86 HE87 => ?_
          refine pl fun K_88 hK89 => ?_
          refine st_storeF (j := 1) 0 HE87 HH83 tv_2 rfl rfl rfl rfl rfl rfl (wt0 rfl) fun w' HH90 => hK89 _ _ ?_
          refine wpList_nil ?_
          clear a_61 HE62 a_63 HE64 a_65 HE66 a_67 HE68 a_69 HE70 a_71 HE72 a_73 HE74 a_75 HE76 a_77 HE78 a_79 HE80 HH54 a_81 HE82 a_84 HE85 HH83 hK89 K_88
          refine blk_n ?_
          refine nrm ?_
          refine rg ?_
          refine pl_x HE87 HH90 (wt0 rfl) (x_move rfl) rfl rfl fun a_91 HE92 => ?_
          refine pl_x HE92 HH90 (wt0 rfl) (x_add rfl rfl (by exact ⟨by omega, by omega⟩)) rfl rfl fun a_93 HE94 => ?_
          refine pl_x HE94 HH90 (wt0 rfl) (x_assign rfl) rfl rfl fun a_95 HE96 => ?_
          refine wpList_nil ?_
          clear a_86 HE87 a_91 HE92 a_93 HE94
          have HH97 := HH90.flatO (E := eInstr) (cs := [.int .i64 (e34.1), .int .i64 (e33), .int .i64 (e34.2.2.1), .int .i64 (e34.2.2.2)]) (x := (e34.1, e33, e34.2.2.1, e34.2.2.2)) (fun _ => (oPrN (oI (by exact ⟨by omega, by omega⟩)) (oPrN (oI (by exact ⟨by omega, by omega⟩)) (oPrN (oI (by exact ⟨by omega, by omega⟩)) (oI (by exact ⟨by omega, by omega⟩))))))
          have HH98 := HH97.sel [1, 0, 2] (by decide) rfl
          have HH99 := HH98.shut
          obtain ⟨S35, HH100⟩ : ∃ S, Held Nob w (rSo eInstr S (some ⟨be34, fe34, none⟩) c27 ((mpTo (mapReg a1) a0 k).set k (e34.1, e33, e34.2.2.1, e34.2.2.2)) :: _) _ := ⟨_, HH99⟩
          have E36 : mpTo (mapReg a1) a0 (k + 1) = ((mpTo (mapReg a1) a0 k).set k (e34.1, e33, e34.2.2.1, e34.2.2.2)) := by
            rw [mpTo_succ _ _ (by omega)]; congr 1; unfold mapReg; grind
          exact nrm ⟨a0.length - (k + 1), (by omega), k + 1, S35, rfl, HE96.sub ⟨(lkI rfl (by first | rfl | omega | (simp [hc22, hc24, p30_0, hc31, xe32, xe33, xe34]; done))), rfl, rfl, rfl, trivial⟩, ((HH100.sel [0] (by decide) rfl).to (by first | rfl | (rw [E36]; done) | (rw [E36]; rfl) | (simp only [E36]; done) | (simp only [E36]; rfl))), (by first | omega | assumption | (simp; done) | simp_all)⟩
        · refine wp_exit ?_
          refine (thn_exit (thn_exit (blk_hit ?_)))
          refine nrm ?_
          refine wp_seq ?_
          refine rg ?_
          refine pl_x HE62 HH54 (wt0 rfl) (x_move rfl) rfl rfl fun a_101 HE102 => ?_
          refine pl_x HE102 HH54 (wt0 rfl) (x_assign rfl) rfl rfl fun a_103 HE104 => ?_
          refine pl_x HE104 HH54 (wt0 rfl) (x_assign rfl) rfl rfl fun a_105 HE106 => ?_
          refine wpList_nil ?_
          clear a_61 HE62 a_101 HE102 a_103 HE104
          refine nrm ?_
          refine wp_ret ?_
          refine ret2 HE106 rfl (rv_tmp rfl) (rv_tmp rfl) ?_
          have hF : (mapRegs a0 a1) = (mpTo (mapReg a1) a0 k, 0) := by
            first | (simp [mapRegs, hc22, hc24, p30_0, hc31]; done) | (unfold mapRegs; rw [if_pos ‹_›, if_pos ‹_›, ← mpTo_end _ _ (by omega : a0.length ≤ k)])
          exact ⟨A26, c27, by first | (rw [hF] <;> rfl) | rfl | (rw [hF]; simp only [Ending.returned.injEq, Value.slice.injEq, true_and, and_true]; first | omega | (simp; done)) | (rw [hF]; simp; omega), by rw [hF]; exact (HH54.so (i := 0) rfl), HH54.below⟩

end Go.Proofs.Ytnokeoejlfodkaa
