/- What the proof of FnExactReadMulti needs: contracts of the functions that it reaches, each once. -/
import Derived.Test.YtcfdkckchbdafaaGreatDoorProg
import Derived.Test.YtcfdkckchbdafaaGreatDoorQMem
import Derived.Test.YtcfdkckchbdafaaGreatDoorQOpen
import Derived.Test.YtcfdkckchbdafaaGreatDoorLReadMultia
import Derived.Test.YtcfdkckchbdafaaGreatDoorLReadMultib
import Derived.Test.YtcfdkckchbdafaaGreatDoorLReadMultic
import Derived.Test.YtcfdkckchbdafaaGreatDoorLReadMultid
import Derived.Test.YtcfdkckchbdafaaGreatDoorLReadMultie
import Derived.Test.YtcfdkckchbdafaaGreatDoorLReadMultif
import Derived.Test.YtcfdkckchbdafaaGreatDoorLReadMultig
import Derived.WalkKit
import Derived.WalkSpells
import Derived.Below
import Derived.LoopTactic
import Derived.Outline
import Derived.Deep.QuietTactic
import Derived.BigQuiet
import Derived.Deep.LoopGhost
import Derived.Handy
import Derived.Lib.Hide
import Derived.Shelf.Abstract
import Derived.StillTailTactics
import Derived.OwnWalk
import Derived.Maps.AppendAt
import Derived.RegionTactic
import Derived.Deep.RegionHeld3
import Derived.IntWalk
import Derived.Deep.Upon
import Derived.Laws.OwnMore
import Derived.Maps.AppendAt
import Derived.Laws.BytesString
import Derived.Laws.Strings
import Derived.Lib.Bytes
import Derived.Lib.Strings
import Derived.Lib.FrozenHead
import Derived.Lib.RuneBytes
import Derived.Lib.LaidTab
import Derived.Laws.StructEq
import Derived.Lib.MapLaws
import Derived.Lib.OthersKept
import Derived.Laws.RangeAny
import Derived.Scope
import Derived.Lib.ItoaLen
import Derived.Lib.Join
import Derived.Shelf.Strconv.Itoa4
import Derived.Shelf.Strings.OnBuilder
import Derived.Shelf.Strings.BuilderK
import Derived.Shelf.Strings.BuilderRune
import Derived.Shelf.LaysM
import Derived.Ground.NamesProg
import Derived.Lib.ParseIntBTie
import Derived.Lib.SplitLaws
import Derived.Lib.Replace
import Derived.Shelf.LaysC
import Derived.Shelf.Strconv.ErrVarParseInt
import Derived.Shelf.Strconv.ParseIntPublic10
import Derived.Shelf.Strings.Prefix
import Derived.Shelf.Strings.Cut
import Derived.Shelf.Strings.Split
import Derived.Shelf.Strings.Replace
import Derived.Shelf.Small.Wraps
import Derived.Stop.IfaceNil
import Derived.Shelf.Small.Utf8
import Derived.Shelf.Strings.Runes
namespace Go.Proofs.YtcfdkckchbdafaaGreatDoor
open Go.RowKit

open Go.Lib in
theorem rdMu_ct (s : List UInt8) : (cv_Multi (rdMuI s).1 : Int) ≤ 1000000000 := by
  unfold rdMuI
  split
  · rename_i h
    have hr := validMulti_ok h.2.2.1
    have h4 := (validMulti_facts h.2.2.1).2.2.2
    have h1 : ct_SMultiRule (muI s).2.2.2 ≤ 20 * (muI s).2.2.2.length := cntL_bound fun x hx => by
      obtain ⟨_, ⟨a1, _⟩, ⟨a2, _⟩, ⟨a3, _⟩, _⟩ := hr x hx
      have b1 := ct_L_len x.2.1
      have b2 := ct_L_len x.2.2.1
      have b3 := ct_L_len x.2.2.2.1
      unfold ct_MultiRule
      omega
    show (ct_SMultiRule (muI s).2.2.2 : Int) ≤ _
    omega
  · exact (by decide : (cv_Multi (0, 0, 0, []) : Int) ≤ 1000000000)

open Go.Lib in
theorem l06D_long {s : List UInt8} (h : 3 < s.length) : l06D s = ([], false) := by
  unfold l06D; rw [if_neg (fun hh => by omega)]

open Go.Lib in
theorem l06D_no {s : List UInt8} {k : Nat} (hk : k < s.length) {e : UInt8} (he : e = s[k]) (h : ¬ (48 ≤ (e.toNat : Int) ∧ (e.toNat : Int) ≤ 57)) : l06D s = ([], false) := by
  unfold l06D
  rw [if_neg]
  intro hh
  have := isDg_iff.1 (List.all_eq_true.1 hh.2 e (by rw [he]; exact List.getElem_mem _))
  omega

open Go.Lib in
theorem l06D_yes {s : List UInt8} (h3 : s.length ≤ 3) {k : Nat} (hk : s.length ≤ k) (h : (s.take k).all isDg = true) : l06D s = ((s.take k).map dgI, true) := by
  rw [List.take_of_length_le hk] at h ⊢
  unfold l06D
  rw [if_pos ⟨h3, h⟩]

open Go.Lib in
theorem l06D_len (s : List UInt8) : (l06D s).1.length ≤ s.length := by
  unfold l06D; split <;> simp

open Go.Lib in
theorem movS_len (s : List UInt8) : (movS s).1.length ≤ s.length := by
  unfold movS; split <;> simp

open Go.Lib in
theorem mv_76 {e : UInt8} (h : (e.toNat : Int) = 76) : mvS e = -1 ∧ mvK e = true := by
  have : e = 76 := UInt8.toNat_inj.1 (by rw [show (76 : UInt8).toNat = 76 from rfl]; omega)
  subst this; exact ⟨rfl, rfl⟩

open Go.Lib in
theorem mv_83 {e : UInt8} (h : (e.toNat : Int) = 83) : mvS e = 0 ∧ mvK e = true := by
  have : e = 83 := UInt8.toNat_inj.1 (by rw [show (83 : UInt8).toNat = 83 from rfl]; omega)
  subst this; exact ⟨rfl, rfl⟩

open Go.Lib in
theorem mv_82 {e : UInt8} (h : (e.toNat : Int) = 82) : mvS e = 1 ∧ mvK e = true := by
  have : e = 82 := UInt8.toNat_inj.1 (by rw [show (82 : UInt8).toNat = 82 from rfl]; omega)
  subst this; exact ⟨rfl, rfl⟩

open Go.Lib in
theorem mv_no {e : UInt8} (h1 : ¬ (e.toNat : Int) = 76) (h2 : ¬ (e.toNat : Int) = 83) (h3 : ¬ (e.toNat : Int) = 82) : mvK e = false := by
  unfold mvK
  rw [Bool.or_eq_false_iff, Bool.or_eq_false_iff, beq_eq_false_iff_ne, beq_eq_false_iff_ne, beq_eq_false_iff_ne]
  exact ⟨fun e0 => h1 (by rw [e0]; rfl), fun e0 => h2 (by rw [e0]; rfl), fun e0 => h3 (by rw [e0]; rfl)⟩

open Go.Lib in
theorem mvS_snoc {s : List UInt8} {k : Nat} (hk : k < s.length) {e : UInt8} (he : e = s[k]) {v : Int} (hv : mvS e = v) : (s.take (k + 1)).map mvS = (s.take k).map mvS ++ [v] := by
  rw [List.take_succ_eq_append_getElem hk, List.map_append, ← he, ← hv]; rfl

open Go.Lib in
theorem mvK_snoc {s : List UInt8} {k : Nat} (hk : k < s.length) (h : (s.take k).all mvK = true) {e : UInt8} (he : e = s[k]) (hv : mvK e = true) : (s.take (k + 1)).all mvK = true := by
  rw [List.take_succ_eq_append_getElem hk, List.all_append, h, ← he]
  simp [hv]

open Go.Lib in
theorem movS_yes {s : List UInt8} {k : Nat} (hk : s.length ≤ k) (h : (s.take k).all mvK = true) : movS s = ((s.take k).map mvS, true) := by
  rw [List.take_of_length_le hk] at h ⊢
  unfold movS; rw [if_pos h]

open Go.Lib in
theorem movS_no {s : List UInt8} {k : Nat} (hk : k < s.length) {e : UInt8} (he : e = s[k]) (h : mvK e = false) : movS s = ([], false) := by
  unfold movS
  rw [if_neg]
  intro hh
  exact ff (List.all_eq_true.1 hh e (by rw [he]; exact List.getElem_mem _)) h

open Go.Lib in
theorem movF_step {s : List UInt8} {n p : Nat} (hn : 0 < n) (hp : p < s.length) : movF s n p = mvR (rnA s p).1 :: movF s (n - 1) (p + (rnA s p).2) := by
  obtain ⟨m, rfl⟩ : ∃ m, n = m + 1 := ⟨n - 1, by omega⟩
  rw [movF, if_pos hp]; rfl

open Go.Lib in
theorem movF_end {s : List UInt8} {n p : Nat} (hp : ¬ p < s.length) : movF s n p = [] := by
  cases n with
  | zero => rfl
  | succ n => rw [movF, if_neg hp]

open Go.Lib in
theorem movF_len (s : List UInt8) : ∀ n p : Nat, (movF s n p).length ≤ n
  | 0, _ => Nat.le_refl _
  | n + 1, p => by
    rw [movF]
    split
    · rw [List.length_cons]; have := movF_len s n (p + (rnA s p).2); omega
    · simp

open Go.Lib in
theorem mrI_parts {s a b c d : List UInt8} {ps : List (List UInt8)} (hd : splitR 32 s = ps) (h : 4 < ps.length) (h0 : a = ps[0]) (h1 : b = ps[1]) (h2 : c = ps[2]) (h3 : d = ps[3]) :
    (mrI (splitR 32 s)).1 = (numR a).1 ∧ (mrI (splitR 32 s)).2.1 = (digR b).1 ∧ (mrI (splitR 32 s)).2.2.1 = (digR c).1 ∧ (mrI (splitR 32 s)).2.2.2.1 = movI d := by
  subst hd
  unfold mrI
  rw [List.getElem?_eq_getElem (by omega), List.getElem?_eq_getElem (by omega), List.getElem?_eq_getElem (by omega), List.getElem?_eq_getElem (by omega), ← h0, ← h1, ← h2, ← h3]
  exact ⟨rfl, rfl, rfl, rfl⟩

open Go.Lib in
theorem readMR_fin {s e : List UInt8} {ps : List (List UInt8)} (hd : splitR 32 s = ps) (h : 4 < ps.length) (h5 : ps.length = 5) (h4 : e = ps[4]) {A : List Int} (hA : (mrI (splitR 32 s)).2.2.2.1 = A) :
    readMR s = ((mrI (splitR 32 s)).1, (mrI (splitR 32 s)).2.1, (mrI (splitR 32 s)).2.2.1, A, (numR e).1) := by
  subst hd hA
  unfold readMR
  rw [if_pos h5]
  have : (mrI (splitR 32 s)).2.2.2.2 = (numR e).1 := by
    unfold mrI
    simp only
    rw [List.getElem?_eq_getElem h, ← h4]; rfl
  rw [← this]

open Go.Lib in
theorem readMR_no {s : List UInt8} (h : ¬ (splitR 32 s).length = 5) : readMR s = (-1, [], [], [], 0) := by unfold readMR; rw [if_neg h]

open Go.Lib in
theorem lineK_eq {line a b c d e : List UInt8} {ps : List (List UInt8)} (hd : splitR 32 line = ps) (h : 4 < ps.length) (hl : ps.length = 5) (h0 : a = ps[0]) (h1 : b = ps[1]) (h2 : c = ps[2]) (h3 : d = ps[3]) (h4 : e = ps[4]) :
    lineK line = ((numC a).2 && ((l06D b).2 && ((l06D c).2 && ((movS d).2 && (numC e).2)))) ∧ lineS line = ((numC a).1, (l06D b).1, (l06D c).1, (movS d).1, (numC e).1) := by
  subst hd
  unfold lineK lineS mrK mrS
  rw [List.getElem?_eq_getElem (by omega), List.getElem?_eq_getElem (by omega), List.getElem?_eq_getElem (by omega), List.getElem?_eq_getElem (by omega), List.getElem?_eq_getElem h, ← h0, ← h1, ← h2, ← h3, ← h4, decide_eq_true hl]
  exact ⟨rfl, rfl⟩

open Go.Lib in
theorem lineK_5 {line : List UInt8} (h : ¬ (splitR 32 line).length = 5) : lineK line = false := by unfold lineK; rw [decide_eq_false h]; rfl

open Go.Lib in
theorem muS_head {s l0 a b c : List UInt8} {l ps : List (List UInt8)} (hl : splitR 10 s = l) (hp : 0 < l.length) (h0 : l0 = l[0]) (hq : splitR 32 l0 = ps) (h3 : 2 < ps.length) (ha : a = ps[0]) (hb : b = ps[1]) (hc : c = ps[2]) :
    hdK (splitR 32 ((splitR 10 s)[0]?.getD [])) = ((numC a).2 && ((numC b).2 && (numC c).2)) ∧ (muS s).1 = (numC a).1 ∧ (muS s).2.1 = (numC b).1 ∧ (muS s).2.2.1 = (numC c).1 := by
  subst hl hq
  unfold muS hdK
  rw [List.getElem?_eq_getElem hp, Option.getD_some, ← h0, List.getElem?_eq_getElem (by omega), List.getElem?_eq_getElem (by omega), List.getElem?_eq_getElem h3, ← ha, ← hb, ← hc]
  exact ⟨rfl, rfl, rfl, rfl⟩

open Go.Lib in
theorem muS_full {s : List UInt8} {j : Nat} (hj : (splitR 10 s).length ≤ j + 1) : ((muS s).1, (muS s).2.1, (muS s).2.2.1, (((splitR 10 s).drop 1).take j).map lineS) = muS s := by
  rw [List.take_of_length_le (by rw [List.length_drop]; omega)]; rfl

open Go.Lib in
theorem rdMuS_61 {s : List UInt8} (h : 61 < (splitR 10 s).length) : rdMuS s = ((0, 0, 0, []), false) := by
  unfold rdMuS; exact if_neg fun hh => by omega

open Go.Lib in
theorem rdMuS_3 {s l0 : List UInt8} {l : List (List UInt8)} (hl : splitR 10 s = l) (hp : 0 < l.length) (h0 : l0 = l[0]) (h : ¬ (splitR 32 l0).length = 3) : rdMuS s = ((0, 0, 0, []), false) := by
  subst hl
  have e : (splitR 10 s)[0]?.getD [] = l0 := by rw [List.getElem?_eq_getElem hp, ← h0]; rfl
  unfold rdMuS
  rw [e]
  exact if_neg fun hh => h hh.2.1

open Go.Lib in
theorem rdMuS_line {s line : List UInt8} {l : List (List UInt8)} {k : Nat} (hl : splitR 10 s = l) (hk : k + 1 < l.length) (h0 : line = l[k + 1]) (h : lineK line = false) : rdMuS s = ((0, 0, 0, []), false) := by
  subst hl
  unfold rdMuS
  refine if_neg fun hh => ?_
  refine ff (List.all_eq_true.1 hh.2.2.1.2 line ?_) h
  rw [List.mem_iff_getElem?]
  exact ⟨k, by rw [List.getElem?_drop, Nat.add_comm, List.getElem?_eq_getElem hk, h0]⟩

open Go.Lib in
theorem rdMuS_ok {s : List UInt8} {j : Nat} (h : (hdK (splitR 32 ((splitR 10 s)[0]?.getD [])) && (((splitR 10 s).drop 1).take j).all lineK) = false) : rdMuS s = ((0, 0, 0, []), false) := by
  unfold rdMuS
  refine if_neg fun hh => ?_
  rw [hh.2.2.1.1, Bool.true_and, List.all_eq_false] at h
  obtain ⟨x, hx, hx2⟩ := h
  exact hx2 (List.all_eq_true.1 hh.2.2.1.2 x (List.mem_of_mem_take hx))

open Go.Lib in
theorem rdMuS_eq {s l0 : List UInt8} {l : List (List UInt8)} {j : Nat} (hl : splitR 10 s = l) (h61 : l.length ≤ 61) (hp : 0 < l.length) (h0 : l0 = l[0]) (h3 : (splitR 32 l0).length = 3) (h : (hdK (splitR 32 ((splitR 10 s)[0]?.getD [])) && (((splitR 10 s).drop 1).take j).all lineK) = true) (hj : l.length ≤ j + 1) {T : tMulti} (hT : T = muS s) :
    rdMuS s = if validMulti T = true ∧ multT T = s then (T, true) else ((0, 0, 0, []), false) := by
  subst hl hT
  have e : (splitR 10 s)[0]?.getD [] = l0 := by rw [List.getElem?_eq_getElem hp, ← h0]; rfl
  rw [List.take_of_length_le (by rw [List.length_drop]; omega), Bool.and_eq_true] at h
  unfold rdMuS
  by_cases hc : validMulti (muS s) = true ∧ multT (muS s) = s
  · rw [if_pos ⟨h61, by rw [e]; exact h3, h, hc⟩, if_pos hc]
  · rw [if_neg (fun hh => hc hh.2.2.2), if_neg hc]

open Go.Lib in
theorem lines_snoc {l : List (List UInt8)} {j : Nat} (hj : j + 1 < l.length) {x : List UInt8} (hx : x = l[j + 1]) {r : tMultiRule} (hr : lineS x = r) : ((l.drop 1).take (j + 1)).map lineS = ((l.drop 1).take j).map lineS ++ [r] := by
  rw [List.take_succ_eq_append_getElem (by rw [List.length_drop]; omega), List.map_append, List.getElem_drop]
  simp only [Nat.add_comm 1 j, ← hx, List.map_cons, List.map_nil, hr]

open Go.Lib in
theorem lineK_snoc {l : List (List UInt8)} {j : Nat} (hj : j + 1 < l.length) {x : List UInt8} (hx : x = l[j + 1]) (b : Bool) : (b && ((l.drop 1).take (j + 1)).all lineK) = ((b && ((l.drop 1).take j).all lineK) && lineK x) := by
  rw [List.take_succ_eq_append_getElem (by rw [List.length_drop]; omega), List.all_append, List.getElem_drop]
  simp only [Nat.add_comm 1 j, ← hx, List.all_cons, List.all_nil, Bool.and_true, Bool.and_assoc]

open Go.Lib in
theorem rdMuI_3 {s l0 : List UInt8} {l : List (List UInt8)} (hl : splitR 10 s = l) (hp : 0 < l.length) (h0 : l0 = l[0]) (h : ¬ ((splitR 32 l0).length = 3 ∧ l.length ≤ 61)) : rdMuI s = ((0, 0, 0, []), false) := by
  subst hl
  have e : (splitR 10 s)[0]?.getD [] = l0 := by rw [List.getElem?_eq_getElem hp, ← h0]; rfl
  unfold rdMuI
  rw [e]
  exact if_neg fun hh => h ⟨hh.1, hh.2.1⟩

open Go.Lib in
theorem muI_head {s l0 a b c : List UInt8} {l ps : List (List UInt8)} (hl : splitR 10 s = l) (hp : 0 < l.length) (h0 : l0 = l[0]) (hq : splitR 32 l0 = ps) (h3 : 2 < ps.length) (ha : a = ps[0]) (hb : b = ps[1]) (hc : c = ps[2]) :
    (muI s).1 = (numR a).1 ∧ (muI s).2.1 = (numR b).1 ∧ (muI s).2.2.1 = (numR c).1 := by
  subst hl hq
  unfold muI
  rw [List.getElem?_eq_getElem hp, Option.getD_some, ← h0, List.getElem?_eq_getElem (by omega), List.getElem?_eq_getElem (by omega), List.getElem?_eq_getElem h3, ← ha, ← hb, ← hc]
  exact ⟨rfl, rfl, rfl⟩

open Go.Lib in
theorem muI_full {s : List UInt8} {k : Nat} (hk : ((splitR 10 s).drop 1).length ≤ k) : ((muI s).1, (muI s).2.1, (muI s).2.2.1, (((splitR 10 s).drop 1).take k).map readMR) = muI s := by
  rw [List.take_of_length_le hk]; rfl

open Go.Lib in
theorem rdMuI_eq {s l0 : List UInt8} {l : List (List UInt8)} (hl : splitR 10 s = l) (hp : 0 < l.length) (h0 : l0 = l[0]) (h3 : (splitR 32 l0).length = 3) (h61 : l.length ≤ 61) {T : tMulti} (hT : T = muI s) :
    rdMuI s = if validMulti T = true ∧ multText T = s then (T, true) else ((0, 0, 0, []), false) := by
  subst hl hT
  have e : (splitR 10 s)[0]?.getD [] = l0 := by rw [List.getElem?_eq_getElem hp, ← h0]; rfl
  unfold rdMuI
  rw [e]
  by_cases hc : validMulti (muI s) = true ∧ multText (muI s) = s
  · rw [if_pos ⟨h3, h61, hc⟩, if_pos hc]
  · rw [if_neg (fun hh => hc hh.2.2), if_neg hc]

open Go.Lib in
theorem maps_snoc {l : List (List UInt8)} {k : Nat} (hk : k < (l.drop 1).length) {x : List UInt8} (hx : x = (l.drop 1)[k]) : ((l.drop 1).take (k + 1)).map readMR = ((l.drop 1).take k).map readMR ++ [readMR x] := by
  rw [List.take_succ_eq_append_getElem hk, List.map_append, ← hx]; rfl

open Go.Lib in
set_option maxRecDepth 100000 in
set_option maxHeartbeats 4000000 in
theorem impl_readMultiRule (a0 : List UInt8) (w : World) (hG : Glob2 w) (s0 : a0.length ≤ 2000000) :
    Calls Tryz.prog 97 #[.string (bs a0)] w fun e w' => ∃ (es0' : List Value), e = .returned (.agg es0'.toArray) ∧ eMultiRule.O w' (Fr w w') es0' (readMR a0) ∧ Below w.heap.size w w' := by
  have HH1 := Held.start Nob w
  refine enter (n := 62) Tryz.func97 rfl rfl rfl fun a_2 HE3 => ?_
  refine wp_seq ?_
  refine rg ?_
  refine pl fun K_4 hK5 => ?_
  refine st_alloc HE3 HH1 tv_123 (wt0 rfl) rfl fun q21 a_6 w' HE7 HH8 => hK5 _ _ ?_
  refine wpList_nil ?_
  clear a_2 HE3 HH1 hK5 K_4
  refine nrm ?_
  refine wp_seq ?_
  refine rg ?_
  refine pl_x HE7 HH8 (wt0 rfl) (x_move rfl) rfl rfl fun a_9 HE10 => ?_
  refine pl fun K_11 hK12 => ?_
  refine st_call HE10 (wt0 rfl) rfl rfl rfl en_78 rfl rfl (Split_1 a0 ([32]) 32 _ (HH8.glob2 hG) (by omega) (by rfl)) fun e w' hr => ?_
  have hAr22_0 := splitR_len 32 a0
  have hAr22_1 := splitR_piece 32 a0
  obtain ⟨Ar22_0, cr22_0, rfl, hor22_0, hbr22⟩ := hr
  obtain ⟨Sr22, HH13⟩ := HH8.newS hbr22 hor22_0
  refine ⟨_, rfl, fun a_14 HE15 => hK12 _ _ ?_⟩
  refine pl_x HE15 HH13 (wt0 rfl) (x_assign rfl) rfl rfl fun a_16 HE17 => ?_
  refine wpList_nil ?_
  clear a_6 HE7 HH8 a_9 HE10 a_14 HE15 hK12 K_11
  refine nrm ?_
  refine wp_seq ?_
  refine wp_seq ?_
  refine rg ?_
  refine pl_x HE17 HH13 (wt0 rfl) (x_move rfl) rfl rfl fun a_18 HE19 => ?_
  refine pl_x HE19 HH13 (wt0 rfl) (x_len Tryz.underlying78 rfl) rfl rfl fun a_20 HE21 => ?_
  refine pl_x HE21 HH13 (wt0 rfl) (x_neq rfl rfl) rfl rfl fun a_22 HE23 => ?_
  refine wpList_nil ?_
  clear a_16 HE17 a_18 HE19 a_20 HE21
  refine nrm ?_
  refine cnd_ne HE23 rfl (fun hc23 => ?_) (fun hc23 => ?_)
  · refine wp_seq ?_
    refine rg ?_
    refine pl_x HE23 HH13 (wt0 rfl) (show XS _ _ _ _ (.agg #[.int .i64 (-1), .slice none (0) 0, .slice none (0) 0, .slice none (0) 0, .int .i64 (0)]) from x_build (vs := [(0, .int .i64 (-1))]) tb_123 rfl (by simp [Value.oneCell'])) rfl rfl fun a_24 HE25 => ?_
    refine pl fun K_26 hK27 => ?_
    refine st_store (vs := [.int .i64 (-1), .slice none (0) 0, .slice none (0) 0, .slice none (0) 0, .int .i64 (0)]) 1 HE25 HH13 tv_123 rfl rfl rfl rfl rfl rfl (by simp [Value.oneCell']) (wt0 rfl) fun w' HH28 => hK27 _ _ ?_
    refine wpList_nil ?_
    clear a_22 HE23 HH13 hK27 K_26
    refine nrm ?_
    refine wp_ret ?_
    refine (thn_ret ?_)
    refine ret1 HE25 rfl (rv_cell rfl (tv_123.loadN (cs := [.int .i64 (-1), .slice none (0) 0, .slice none (0) 0, .slice none (0) 0, .int .i64 (0)]) rfl (c_blkN 1 rfl _ HH28))) ?_
    have HH29 := HH28.flatO (E := eMultiRule) (cs := [.int .i64 (-1), .slice none (0) 0, .slice none (0) 0, .slice none (0) 0, .int .i64 (0)]) (x := (-1, [], [], [], 0)) (fun _ => (oPrN (oI (by exact ⟨by omega, by omega⟩)) (oPrN (oSl (So.nil (Nat.zero_le _))) (oPrN (oSl (So.nil (Nat.zero_le _))) (oPrN (oSl (So.nil (Nat.zero_le _))) (oI (by exact ⟨by omega, by omega⟩)))))))
    have hF : (readMR a0) = (-1, [], [], [], 0) := by
      first | exact readMR_no (by omega) | exact readMR_fin rfl (by omega) (by omega) hz4 (by have hq := p0_0; rw [movF_end (by omega), List.append_nil] at hq; exact hq)
    exact ⟨_, rfl, by rw [hF]; exact (HH29.o (i := 0) rfl), HH29.below⟩
  · refine wp_skip ?_
    refine nrm ?_
    refine wp_seq ?_
    refine rg ?_
    refine pl_x HE23 HH13 (wt0 rfl) (show XS _ _ _ _ (.agg #[.int .i64 (0), .slice none (0) 0, .slice none (0) 0, .slice none (0) 0, .int .i64 (0)]) from x_build (vs := []) tb_123 rfl (by simp [Value.oneCell'])) rfl rfl fun a_30 HE31 => ?_
    refine pl fun K_32 hK33 => ?_
    refine st_alloc HE31 HH13 tv_123 (wt0 rfl) rfl fun q24 a_34 w' HE35 HH36 => hK33 _ _ ?_
    refine pl fun K_37 hK38 => ?_
    refine st_store (vs := [.int .i64 (0), .slice none (0) 0, .slice none (0) 0, .slice none (0) 0, .int .i64 (0)]) 0 HE35 HH36 tv_123 rfl rfl rfl rfl rfl rfl (by simp [Value.oneCell']) (wt0 rfl) fun w' HH39 => hK38 _ _ ?_
    refine wpList_nil ?_
    clear a_22 HE23 a_30 HE31 HH13 K_32 hK33 HH36 hK38 K_37
    refine nrm ?_
    refine wp_seq ?_
    refine rg ?_
    refine pl_x HE35 HH39 (wt0 rfl) (x_move rfl) rfl rfl fun a_40 HE41 => ?_
    have ke25 : 0 < (splitR 32 a0).length := by omega
    obtain ⟨be25, fe25, rfl⟩ := el_own HH39 (i := 1) rfl ke25
    refine pl_x HE41 HH39 (wt0 rfl) (x_indexAddr ts_78 rfl rfl rfl rfl ke25) rfl rfl fun a_42 HE43 => ?_
    obtain ⟨y26, xy26⟩ : ∃ y_, y_ = (splitR 32 a0)[0]'(by first | exact ke25 | (simp only [List.length_set]; exact ke25) | omega | (simp only [List.length_set]; omega) | (simp; omega)) := ⟨_, rfl⟩
    have jy26 : List.length y26 ≤ 9223372036854775807 := by rw [xy26]; exact i_ownS HH39 1 rfl _
    have hz0 := xy26
    have hpy26 := splitR_piece 32 a0 y26 (by rw [xy26]; exact List.getElem_mem _)
    refine pl_x HE43 HH39 (wt0 rfl) (x_load1 tv_9 rfl (c_ownS 1 rfl (by first | exact ke25 | (simp only [List.length_set]; exact ke25) | omega | (simp only [List.length_set]; omega) | (simp; omega)) xy26.symm)) rfl rfl fun a_44 HE45 => ?_
    refine pl fun K_46 hK47 => ?_
    refine st_call HE45 (wt0 rfl) rfl rfl rfl en_70 rfl rfl (impl_ReadDecimal y26 _ (HH39.glob2 hG) (by omega)) fun e w' hr => ?_
    have hAr27_0 := numR_bd y26
    obtain ⟨rfl, hbr27⟩ := hr
    have HH48 := HH39.on hbr27
    refine ⟨_, rfl, fun a_49 HE50 => hK47 _ _ ?_⟩
    refine pl_x HE50 HH48 (wt0 rfl) (x_move rfl) rfl rfl fun a_51 HE52 => ?_
    refine pl_x HE52 HH48 (wt0 rfl) (x_extract rfl rfl) rfl rfl fun a_53 HE54 => ?_
    refine pl_x HE54 HH48 (wt0 rfl) (x_extract rfl rfl) rfl rfl fun a_55 HE56 => ?_
    refine pl_x HE56 HH48 (wt0 rfl) (x_fieldAddr fa_123_0 rfl) rfl rfl fun a_57 HE58 => ?_
    refine pl fun K_59 hK60 => ?_
    refine st_store (vs := [.int .i64 ((numR y26).1)]) 0 HE58 HH48 tv_2 rfl rfl rfl rfl rfl rfl (by simp [Value.oneCell']) (wt0 rfl) fun w' HH61 => hK60 _ _ ?_
    refine wpList_nil ?_
    clear a_34 HE35 a_40 HE41 a_42 HE43 HH39 a_44 HE45 a_49 HE50 a_51 HE52 a_53 HE54 a_55 HE56 K_46 hK47 HH48 hK60 K_59
    refine nrm ?_
    refine wp_seq ?_
    refine rg ?_
    refine pl_x HE58 HH61 (wt0 rfl) (x_move rfl) rfl rfl fun a_62 HE63 => ?_
    have ke28 : 1 < (splitR 32 a0).length := by omega
    refine pl_x HE63 HH61 (wt0 rfl) (x_indexAddr ts_78 rfl rfl rfl rfl ke28) rfl rfl fun a_64 HE65 => ?_
    obtain ⟨y29, xy29⟩ : ∃ y_, y_ = (splitR 32 a0)[1]'(by first | exact ke28 | (simp only [List.length_set]; exact ke28) | omega | (simp only [List.length_set]; omega) | (simp; omega)) := ⟨_, rfl⟩
    have jy29 : List.length y29 ≤ 9223372036854775807 := by rw [xy29]; exact i_ownS HH61 1 rfl _
    have hz1 := xy29
    have hpy29 := splitR_piece 32 a0 y29 (by rw [xy29]; exact List.getElem_mem _)
    refine pl_x HE65 HH61 (wt0 rfl) (x_load1 tv_9 rfl (c_ownS 1 rfl (by first | exact ke28 | (simp only [List.length_set]; exact ke28) | omega | (simp only [List.length_set]; omega) | (simp; omega)) xy29.symm)) rfl rfl fun a_66 HE67 => ?_
    refine pl fun K_68 hK69 => ?_
    refine st_call HE67 (wt0 rfl) rfl rfl rfl en_151 rfl rfl (impl_readDigits y29 _ (by first | omega | assumption)) fun e w' hr => ?_
    have hAr30_0 := digR_len y29
    obtain ⟨Ar30_0, cr30_0, rfl, hor30_0, hbr30⟩ := hr
    obtain ⟨Sr30, HH70⟩ := HH61.newS hbr30 hor30_0
    refine ⟨_, rfl, fun a_71 HE72 => hK69 _ _ ?_⟩
    refine pl_x HE72 HH70 (wt0 rfl) (x_move rfl) rfl rfl fun a_73 HE74 => ?_
    refine pl_x HE74 HH70 (wt0 rfl) (x_extract rfl rfl) rfl rfl fun a_75 HE76 => ?_
    refine pl_x HE76 HH70 (wt0 rfl) (x_extract rfl rfl) rfl rfl fun a_77 HE78 => ?_
    refine pl_x HE78 HH70 (wt0 rfl) (x_fieldAddr fa_123_1 rfl) rfl rfl fun a_79 HE80 => ?_
    refine pl fun K_81 hK82 => ?_
    refine st_store (vs := [.slice Ar30_0 ((digR y29).1.length) cr30_0]) 1 HE80 HH70 tv_25 rfl rfl rfl rfl rfl rfl (by simp [Value.oneCell']) (wt0 rfl) fun w' HH83 => hK82 _ _ ?_
    refine wpList_nil ?_
    clear a_57 HE58 a_62 HE63 a_64 HE65 HH61 a_66 HE67 a_71 HE72 a_73 HE74 a_75 HE76 a_77 HE78 K_68 hK69 HH70 hK82 K_81
    refine nrm ?_
    refine wp_seq ?_
    refine rg ?_
    refine pl_x HE80 HH83 (wt0 rfl) (x_move rfl) rfl rfl fun a_84 HE85 => ?_
    have ke31 : 2 < (splitR 32 a0).length := by omega
    refine pl_x HE85 HH83 (wt0 rfl) (x_indexAddr ts_78 rfl rfl rfl rfl ke31) rfl rfl fun a_86 HE87 => ?_
    obtain ⟨y32, xy32⟩ : ∃ y_, y_ = (splitR 32 a0)[2]'(by first | exact ke31 | (simp only [List.length_set]; exact ke31) | omega | (simp only [List.length_set]; omega) | (simp; omega)) := ⟨_, rfl⟩
    have jy32 : List.length y32 ≤ 9223372036854775807 := by rw [xy32]; exact i_ownS HH83 2 rfl _
    have hz2 := xy32
    have hpy32 := splitR_piece 32 a0 y32 (by rw [xy32]; exact List.getElem_mem _)
    refine pl_x HE87 HH83 (wt0 rfl) (x_load1 tv_9 rfl (c_ownS 2 rfl (by first | exact ke31 | (simp only [List.length_set]; exact ke31) | omega | (simp only [List.length_set]; omega) | (simp; omega)) xy32.symm)) rfl rfl fun a_88 HE89 => ?_
    refine pl fun K_90 hK91 => ?_
    refine st_call HE89 (wt0 rfl) rfl rfl rfl en_151 rfl rfl (impl_readDigits y32 _ (by first | omega | assumption)) fun e w' hr => ?_
    have hAr33_0 := digR_len y32
    obtain ⟨Ar33_0, cr33_0, rfl, hor33_0, hbr33⟩ := hr
    obtain ⟨Sr33, HH92⟩ := HH83.newS hbr33 hor33_0
    refine ⟨_, rfl, fun a_93 HE94 => hK91 _ _ ?_⟩
    refine pl_x HE94 HH92 (wt0 rfl) (x_move rfl) rfl rfl fun a_95 HE96 => ?_
    refine pl_x HE96 HH92 (wt0 rfl) (x_extract rfl rfl) rfl rfl fun a_97 HE98 => ?_
    refine pl_x HE98 HH92 (wt0 rfl) (x_extract rfl rfl) rfl rfl fun a_99 HE100 => ?_
    refine pl_x HE100 HH92 (wt0 rfl) (x_fieldAddr fa_123_2 rfl) rfl rfl fun a_101 HE102 => ?_
    refine pl fun K_103 hK104 => ?_
    refine st_store (vs := [.slice Ar33_0 ((digR y32).1.length) cr33_0]) 2 HE102 HH92 tv_25 rfl rfl rfl rfl rfl rfl (by simp [Value.oneCell']) (wt0 rfl) fun w' HH105 => hK104 _ _ ?_
    refine wpList_nil ?_
    clear a_79 HE80 a_84 HE85 a_86 HE87 HH83 a_88 HE89 a_93 HE94 a_95 HE96 a_97 HE98 a_99 HE100 K_90 hK91 HH92 hK104 K_103
    refine nrm ?_
    refine wp_seq ?_
    refine wp_seq ?_
    refine rg ?_
    refine pl_x HE102 HH105 (wt0 rfl) (x_move rfl) rfl rfl fun a_106 HE107 => ?_
    have ke34 : 3 < (splitR 32 a0).length := by omega
    refine pl_x HE107 HH105 (wt0 rfl) (x_indexAddr ts_78 rfl rfl rfl rfl ke34) rfl rfl fun a_108 HE109 => ?_
    obtain ⟨y35, xy35⟩ : ∃ y_, y_ = (splitR 32 a0)[3]'(by first | exact ke34 | (simp only [List.length_set]; exact ke34) | omega | (simp only [List.length_set]; omega) | (simp; omega)) := ⟨_, rfl⟩
    have jy35 : List.length y35 ≤ 9223372036854775807 := by rw [xy35]; exact i_ownS HH105 3 rfl _
    have hz3 := xy35
    have hpy35 := splitR_piece 32 a0 y35 (by rw [xy35]; exact List.getElem_mem _)
    refine pl_x HE109 HH105 (wt0 rfl) (x_load1 tv_9 rfl (c_ownS 3 rfl (by first | exact ke34 | (simp only [List.length_set]; exact ke34) | omega | (simp only [List.length_set]; omega) | (simp; omega)) xy35.symm)) rfl rfl fun a_110 HE111 => ?_
    refine pl fun K_112 hK113 => ?_
    refine st_range HE111 HH105 Tryz.underlying9 rfl (wt0 rfl) rfl fun q36 a_114 w' HE115 HH116 => hK113 _ _ ?_
    refine wpList_nil ?_
    clear a_101 HE102 a_106 HE107 a_108 HE109 a_110 HE111 HH105 hK113 K_112
    refine nrm ?_
    refine wp_block ?_
    obtain ⟨hm0, hm1, hm2, hm3⟩ := mrI_parts rfl (by omega) hz0 hz1 hz2 hz3
    have hml := movF_len y35 (List.length y35) 0
    have HH117 := HH116.vecNil eInt 2
    refine lp (fun m a w' => ∃ (n : Nat) (p : Nat) (L : List Int) (A_4_1 : Option Addr) (c_4_1 : Nat) (S_4_1 : Nat → Prop) (A_4_2 : Option Addr) (c_4_2 : Nat) (S_4_2 : Nat → Prop) (A_4_3 : Option Addr) (c_4_3 : Nat) (S_4_3 : Nat → Prop), m = 0 + n ∧ Env 62 [(2, .pointer (some ⟨q21, 0, none⟩)), (3, .slice (some ⟨be25, fe25, none⟩) ((splitR 32 a0).length) cr22_0), (4, .pointer (some ⟨q24, 0, none⟩)), (41, .pointer (some ⟨q36, 0, none⟩))] a ∧ Held Nob w [rSo eInt S_4_1 A_4_1 c_4_1 ((mrI (splitR 32 a0)).2.1), rSo eInt S_4_2 A_4_2 c_4_2 ((mrI (splitR 32 a0)).2.2.1), rVec eInt 2 S_4_3 A_4_3 c_4_3 L, rIt q36 y35 p, rBlk q24 123 [.int .i64 (mrI (splitR 32 a0)).1, .slice A_4_1 (List.length ((mrI (splitR 32 a0)).2.1)) c_4_1, .slice A_4_2 (List.length ((mrI (splitR 32 a0)).2.2.1)) c_4_2, .slice A_4_3 (List.length L) c_4_3, .int .i64 0], rSo eTxt Sr22 (some ⟨be25, fe25, none⟩) cr22_0 (splitR 32 a0), rBlk q21 123 [.int .i64 (0), .slice none (0) 0, .slice none (0) 0, .slice none (0) 0, .int .i64 (0)]] w' ∧ ((mrI (splitR 32 a0)).2.2.2.1 = L ++ movF y35 n p) ∧ (p ≤ List.length y35) ∧ (List.length y35 ≤ p + n) ∧ (L.length + n ≤ List.length y35)) (0 + ((List.length y35))) ?_ ?_
    · have E37 : (mrI (splitR 32 a0)).2.1 = (digR y29).1 := by
        exact hm1
      have E38 : (mrI (splitR 32 a0)).2.2.1 = (digR y32).1 := by
        exact hm2
      have E39 : (([] : List Int)) = [] := by
        rfl
      have E40 : (mrI (splitR 32 a0)).1 = (numR y26).1 := by exact hm0
      exact ⟨(List.length y35), 0, ([] : List Int), Ar30_0, cr30_0, Sr30, Ar33_0, cr33_0, Sr33, none, 0, Nob, rfl, HE115.sub ⟨rfl, rfl, rfl, rfl, trivial⟩, ((HH117.sel [3, 2, 0, 1, 4, 5, 6] (by decide) rfl).to (by first | rfl | (rw [E37, E38, E39, E40]; done) | (rw [E37, E38, E39, E40]; rfl) | (simp only [E37, E38, E39, E40]; done) | (simp only [E37, E38, E39, E40]; rfl) | (rw [E37, E38, E39, E40]; simp only [List.length_set]; done))), (by rw [hm3]; rfl), (by first | omega | assumption | (simp; done) | simp_all), (by first | omega | assumption | (simp; done) | simp_all), (by first | omega | assumption | (simp; done) | simp_all)⟩
    · rintro m a_118 w' ⟨n, p, L, A_4_1, c_4_1, S_4_1, A_4_2, c_4_2, S_4_2, A_4_3, c_4_3, S_4_3, rfl, HE119, HH120, p41_0, p41_1, p41_2, p41_3⟩
      refine wp_seq ?_
      refine rg ?_
      by_cases hc42 : p < List.length y35
      · refine pl fun K_121 hK122 => ?_
        refine st_nextT 3 HE119 HH120 rfl (of_decide_eq_true (decide_eq_true hc42)) rfl (wt0 rfl) rfl fun a_123 w' HE124 HH125 => hK122 _ _ ?_
        have rn43_0 := rnA_pos (of_decide_eq_true (decide_eq_true hc42))
        have rn43_1 := rnA_le (of_decide_eq_true (decide_eq_true hc42))
        have rn43_2 := rnA_top y35 p
        refine pl_x HE124 HH125 (wt0 rfl) (x_extract rfl rfl) rfl rfl fun a_126 HE127 => ?_
        refine wpList_nil ?_
        clear HH116 a_114 HE115 HH117 a_118 HE119 HH120 a_123 HE124 hK122 K_121
        refine nrm ?_
        refine wp_seq ?_
        refine cndT HE127 rfl rfl ?_
        refine wp_skip ?_
        refine nrm ?_
        refine wp_block ?_
        refine wp_seq ?_
        refine rg ?_
        refine pl_x HE127 HH125 (wt0 rfl) (x_extract rfl rfl) rfl rfl fun a_128 HE129 => ?_
        refine pl_x HE129 HH125 (wt0 rfl) (x_assign rfl) rfl rfl fun a_130 HE131 => ?_
        refine wpList_nil ?_
        clear a_126 HE127 a_128 HE129
        refine nrm ?_
        refine dr_start (Held Nob w [rSo eInt S_4_1 A_4_1 c_4_1 ((mrI (splitR 32 a0)).2.1), rSo eInt S_4_2 A_4_2 c_4_2 ((mrI (splitR 32 a0)).2.2.1), rIt q36 y35 (p + (rnA y35 p).2), rSo eTxt Sr22 (some ⟨be25, fe25, none⟩) cr22_0 (splitR 32 a0), rBlk q21 123 [.int .i64 (0), .slice none (0) 0, .slice none (0) 0, .slice none (0) 0, .int .i64 (0)]]) 9 #[false, false, false, false, false, false, false, false, false] hmix rfl rfl HH125 (fun _ h => h.sel [0, 1, 3, 5, 6] (by decide) rfl) fun w' HH132 => ?_
        have HS133 := HH132.sel [0, 1, 3, 5, 6] (by decide) rfl
        refine dr_take (i := 0) (ls' := #[true, false, false, false, false, false, false, false, false]) HE131 HS133 rfl (by kernel_rfl) (by kernel_rfl) (by kernel_rfl) (fun _ _ _ h => h) rfl (wt0 rfl) (x_fieldAddr fa_123_3 rfl) rfl rfl fun a_134 HE135 => ?_
        refine dr_take (i := 2) (ls' := #[true, false, true, false, false, false, false, false, false]) HE135 HS133 rfl (by kernel_rfl) (by kernel_rfl) (by kernel_rfl) (fun _ _ _ h => h) rfl (wt0 rfl) (x_move rfl) rfl rfl fun a_136 HE137 => ?_
        refine dr_two (i := 1) (j := 3) (ls' := #[true, true, true, false, false, false, false, false, false]) (ls'' := #[true, false, true, true, false, false, false, false, false]) rfl rfl (by kernel_rfl) rfl rfl (fun K_138 hK139 => ?_) (fun K_138 hK139 => ?_)
        · refine st_x HE137 HH132 (wt0 rfl) (x_load1 tv_25 rfl (c_blk 4 rfl rfl)) rfl rfl fun a_140 HE141 => hK139 _ _ HS133 ?_
          refine dr_one (i := 3) (ls' := #[true, true, true, true, false, false, false, false, false]) rfl (by kernel_rfl) rfl fun K_142 hK143 => ?_
          refine st_call HE141 (wt0 rfl) rfl rfl rfl en_152 rfl rfl (IndexRune_LSR (rnA y35 p).1 _ (by omega)) fun e w' hr => ?_
          have hAr44_0 := mvR_bd (rnA y35 p).1
          obtain ⟨rfl, hbr44⟩ := hr
          have HH144 := HH132.on hbr44
          refine ⟨_, rfl, fun a_145 HE146 => hK143 _ _ (by exact HH144.sel [0, 1, 3, 5, 6] (by decide) rfl) ?_⟩
          have HS147 := HH144.sel [0, 1, 3, 5, 6] (by decide) rfl
          refine dr_take (i := 4) (ls' := #[true, true, true, true, true, false, false, false, false]) HE146 HS147 rfl (by kernel_rfl) (by kernel_rfl) (by kernel_rfl) (fun _ _ _ h => h) rfl (wt0 rfl) (x_sub rfl rfl (by exact ⟨by omega, by omega⟩)) rfl rfl fun a_148 HE149 => ?_
          refine dr_one (i := 5) (ls' := #[true, true, true, true, true, true, false, false, false]) rfl (by kernel_rfl) rfl fun K_150 hK151 => ?_
          refine st_lit (m := 1) (cs := [.int .i64 (((mvR (rnA y35 p).1 + 1) - 1))]) (e := 2) HE149 HH144 (run_lit ts_25 HE149 (vs := [.int .i64 (((mvR (rnA y35 p).1 + 1) - 1))]) rfl rfl (by simp [Value.cells]) rfl (by decide)) (wt0 rfl) rfl rfl fun q45 a_152 w' HE153 HH154 => hK151 _ _ (by exact HH154.sel [1, 2, 4, 6, 7] (by decide) rfl) ?_
          have HS155 := HH154.sel [1, 2, 4, 6, 7] (by decide) rfl
          refine dr_one (i := 6) (ls' := #[true, true, true, true, true, true, true, false, false]) rfl (by kernel_rfl) rfl fun K_156 hK157 => ?_
          refine st_app1F ((mvR (rnA y35 p).1 + 1) - 1) HE153 HH154 ts_25 [3, 0, 1, 2, 4, 5, 6, 7] (by decide) rfl (fun _ => (oI (by exact ⟨by omega, by omega⟩))) rfl rfl (by simp [Value.oneCell']) (by unfold maxLen; first | omega | (simp; done) | (simp; omega)) (by first | omega | (simp; done) | (simp; omega)) (wt0 rfl) rfl fun A46 c47 S48 a_158 w' HE159 HH160 => hK157 _ _ (by exact HH160.sel [1, 2, 3, 5, 6] (by decide) rfl) ?_
          have HS161 := HH160.sel [1, 2, 3, 5, 6] (by decide) rfl
          refine dr_take (i := 7) (ls' := #[true, true, true, true, true, true, true, true, false]) HE159 HS161 rfl (by kernel_rfl) (by kernel_rfl) (by kernel_rfl) (fun _ _ _ h => h) rfl (wt0 rfl) (x_fieldAddr fa_123_3 rfl) rfl rfl fun a_162 HE163 => ?_
          refine dr_one (i := 8) (ls' := #[true, true, true, true, true, true, true, true, true]) rfl (by kernel_rfl) rfl fun K_164 hK165 => ?_
          refine st_store (vs := [.slice A46 ((L ++ [((mvR (rnA y35 p).1 + 1) - 1)]).length) c47]) 4 HE163 HH160 tv_25 rfl rfl rfl rfl rfl rfl (by simp [Value.oneCell']) (wt0 rfl) fun w' HH166 => hK165 _ _ (by exact HH166.sel [1, 2, 3, 5, 6] (by decide) rfl) ?_
          have HS167 := HH166.sel [1, 2, 3, 5, 6] (by decide) rfl
          refine dr_done (by kernel_rfl) ?_
          clear HH125 a_130 HE131 a_134 HE135 a_136 HE137 K_138 hK139 HH132 a_140 HE141 HS133 a_145 HE146 K_142 hK143 a_148 HE149 HH144 HS147 K_150 hK151 a_152 HE153 HH154 HS155 a_158 HE159 K_156 hK157 HH160 HS161 hK165 K_164
          refine blk_n ?_
          have E49 : ((L ++ [mvR (rnA y35 p).1])) = (L ++ [((mvR (rnA y35 p).1 + 1) - 1)]) := by
            rw [show mvR (rnA y35 p).1 + 1 - 1 = mvR (rnA y35 p).1 from by omega]
          have E50 : ((p + (rnA y35 p).2)) = (p + (rnA y35 p).2) := by first | rfl | omega
          exact nrm ⟨0 + ((n - 1)), (by omega), (n - 1), (p + (rnA y35 p).2), (L ++ [mvR (rnA y35 p).1]), A_4_1, c_4_1, S_4_1, A_4_2, c_4_2, S_4_2, A46, c47, S48, rfl, HE163.sub ⟨rfl, rfl, rfl, rfl, trivial⟩, ((HH166.sel [1, 2, 0, 3, 4, 5, 6] (by decide) rfl).to (by first | rfl | (rw [E49, E50]; done) | (rw [E49, E50]; rfl) | (simp only [E49, E50]; done) | (simp only [E49, E50]; rfl) | (rw [E49, E50]; simp only [List.length_set]; done))), (by rw [p41_0, movF_step (by omega) (by omega)]; simp), (by first | omega | assumption | (simp; done) | simp_all), (by first | omega | assumption | (simp; done) | simp_all), (by rw [List.length_append]; simp; omega)⟩
        · refine st_call HE137 (wt0 rfl) rfl rfl rfl en_152 rfl rfl (IndexRune_LSR (rnA y35 p).1 _ (by omega)) fun e w' hr => ?_
          have hAr51_0 := mvR_bd (rnA y35 p).1
          obtain ⟨rfl, hbr51⟩ := hr
          have HH168 := HH132.on hbr51
          refine ⟨_, rfl, fun a_169 HE170 => hK139 _ _ (by exact HH168.sel [0, 1, 3, 5, 6] (by decide) rfl) ?_⟩
          have HS171 := HH168.sel [0, 1, 3, 5, 6] (by decide) rfl
          refine dr_take (i := 4) (ls' := #[true, false, true, true, true, false, false, false, false]) HE170 HS171 rfl (by kernel_rfl) (by kernel_rfl) (by kernel_rfl) (fun _ _ _ h => h) rfl (wt0 rfl) (x_sub rfl rfl (by exact ⟨by omega, by omega⟩)) rfl rfl fun a_172 HE173 => ?_
          refine dr_two (i := 1) (j := 5) (ls' := #[true, true, true, true, true, false, false, false, false]) (ls'' := #[true, false, true, true, true, true, false, false, false]) rfl rfl (by kernel_rfl) rfl rfl (fun K_174 hK175 => ?_) (fun K_174 hK175 => ?_)
          · refine st_x HE173 HH168 (wt0 rfl) (x_load1 tv_25 rfl (c_blk 4 rfl rfl)) rfl rfl fun a_176 HE177 => hK175 _ _ HS171 ?_
            refine dr_one (i := 5) (ls' := #[true, true, true, true, true, true, false, false, false]) rfl (by kernel_rfl) rfl fun K_178 hK179 => ?_
            refine st_lit (m := 1) (cs := [.int .i64 (((mvR (rnA y35 p).1 + 1) - 1))]) (e := 2) HE177 HH168 (run_lit ts_25 HE177 (vs := [.int .i64 (((mvR (rnA y35 p).1 + 1) - 1))]) rfl rfl (by simp [Value.cells]) rfl (by decide)) (wt0 rfl) rfl rfl fun q52 a_180 w' HE181 HH182 => hK179 _ _ (by exact HH182.sel [1, 2, 4, 6, 7] (by decide) rfl) ?_
            have HS183 := HH182.sel [1, 2, 4, 6, 7] (by decide) rfl
            refine dr_one (i := 6) (ls' := #[true, true, true, true, true, true, true, false, false]) rfl (by kernel_rfl) rfl fun K_184 hK185 => ?_
            refine st_app1F ((mvR (rnA y35 p).1 + 1) - 1) HE181 HH182 ts_25 [3, 0, 1, 2, 4, 5, 6, 7] (by decide) rfl (fun _ => (oI (by exact ⟨by omega, by omega⟩))) rfl rfl (by simp [Value.oneCell']) (by unfold maxLen; first | omega | (simp; done) | (simp; omega)) (by first | omega | (simp; done) | (simp; omega)) (wt0 rfl) rfl fun A53 c54 S55 a_186 w' HE187 HH188 => hK185 _ _ (by exact HH188.sel [1, 2, 3, 5, 6] (by decide) rfl) ?_
            have HS189 := HH188.sel [1, 2, 3, 5, 6] (by decide) rfl
            refine dr_take (i := 7) (ls' := #[true, true, true, true, true, true, true, true, false]) HE187 HS189 rfl (by kernel_rfl) (by kernel_rfl) (by kernel_rfl) (fun _ _ _ h => h) rfl (wt0 rfl) (x_fieldAddr fa_123_3 rfl) rfl rfl fun a_190 HE191 => ?_
            refine dr_one (i := 8) (ls' := #[true, true, true, true, true, true, true, true, true]) rfl (by kernel_rfl) rfl fun K_192 hK193 => ?_
            refine st_store (vs := [.slice A53 ((L ++ [((mvR (rnA y35 p).1 + 1) - 1)]).length) c54]) 4 HE191 HH188 tv_25 rfl rfl rfl rfl rfl rfl (by simp [Value.oneCell']) (wt0 rfl) fun w' HH194 => hK193 _ _ (by exact HH194.sel [1, 2, 3, 5, 6] (by decide) rfl) ?_
            have HS195 := HH194.sel [1, 2, 3, 5, 6] (by decide) rfl
            refine dr_done (by kernel_rfl) ?_
            clear HH125 a_130 HE131 a_134 HE135 HH132 a_136 HE137 HS133 a_169 HE170 K_138 hK139 a_172 HE173 K_174 hK175 a_176 HE177 HH168 HS171 K_178 hK179 a_180 HE181 HH182 HS183 a_186 HE187 K_184 hK185 HH188 HS189 hK193 K_192
            refine blk_n ?_
            have E56 : ((L ++ [mvR (rnA y35 p).1])) = (L ++ [((mvR (rnA y35 p).1 + 1) - 1)]) := by
              rw [show mvR (rnA y35 p).1 + 1 - 1 = mvR (rnA y35 p).1 from by omega]
            have E57 : ((p + (rnA y35 p).2)) = (p + (rnA y35 p).2) := by first | rfl | omega
            exact nrm ⟨0 + ((n - 1)), (by omega), (n - 1), (p + (rnA y35 p).2), (L ++ [mvR (rnA y35 p).1]), A_4_1, c_4_1, S_4_1, A_4_2, c_4_2, S_4_2, A53, c54, S55, rfl, HE191.sub ⟨rfl, rfl, rfl, rfl, trivial⟩, ((HH194.sel [1, 2, 0, 3, 4, 5, 6] (by decide) rfl).to (by first | rfl | (rw [E56, E57]; done) | (rw [E56, E57]; rfl) | (simp only [E56, E57]; done) | (simp only [E56, E57]; rfl) | (rw [E56, E57]; simp only [List.length_set]; done))), (by rw [p41_0, movF_step (by omega) (by omega)]; simp), (by first | omega | assumption | (simp; done) | simp_all), (by first | omega | assumption | (simp; done) | simp_all), (by rw [List.length_append]; simp; omega)⟩
          · refine st_lit (m := 1) (cs := [.int .i64 (((mvR (rnA y35 p).1 + 1) - 1))]) (e := 2) HE173 HH168 (run_lit ts_25 HE173 (vs := [.int .i64 (((mvR (rnA y35 p).1 + 1) - 1))]) rfl rfl (by simp [Value.cells]) rfl (by decide)) (wt0 rfl) rfl rfl fun q58 a_196 w' HE197 HH198 => hK175 _ _ (by exact HH198.sel [1, 2, 4, 6, 7] (by decide) rfl) ?_
            have HS199 := HH198.sel [1, 2, 4, 6, 7] (by decide) rfl
            refine dr_one (i := 1) (ls' := #[true, true, true, true, true, true, false, false, false]) rfl (by kernel_rfl) rfl fun K_200 hK201 => ?_
            refine st_x HE197 HH198 (wt0 rfl) (x_load1 tv_25 rfl (c_blk 5 rfl rfl)) rfl rfl fun a_202 HE203 => hK201 _ _ HS199 ?_
            refine dr_one (i := 6) (ls' := #[true, true, true, true, true, true, true, false, false]) rfl (by kernel_rfl) rfl fun K_204 hK205 => ?_
            refine st_app1F ((mvR (rnA y35 p).1 + 1) - 1) HE203 HH198 ts_25 [3, 0, 1, 2, 4, 5, 6, 7] (by decide) rfl (fun _ => (oI (by exact ⟨by omega, by omega⟩))) rfl rfl (by simp [Value.oneCell']) (by unfold maxLen; first | omega | (simp; done) | (simp; omega)) (by first | omega | (simp; done) | (simp; omega)) (wt0 rfl) rfl fun A59 c60 S61 a_206 w' HE207 HH208 => hK205 _ _ (by exact HH208.sel [1, 2, 3, 5, 6] (by decide) rfl) ?_
            have HS209 := HH208.sel [1, 2, 3, 5, 6] (by decide) rfl
            refine dr_take (i := 7) (ls' := #[true, true, true, true, true, true, true, true, false]) HE207 HS209 rfl (by kernel_rfl) (by kernel_rfl) (by kernel_rfl) (fun _ _ _ h => h) rfl (wt0 rfl) (x_fieldAddr fa_123_3 rfl) rfl rfl fun a_210 HE211 => ?_
            refine dr_one (i := 8) (ls' := #[true, true, true, true, true, true, true, true, true]) rfl (by kernel_rfl) rfl fun K_212 hK213 => ?_
            refine st_store (vs := [.slice A59 ((L ++ [((mvR (rnA y35 p).1 + 1) - 1)]).length) c60]) 4 HE211 HH208 tv_25 rfl rfl rfl rfl rfl rfl (by simp [Value.oneCell']) (wt0 rfl) fun w' HH214 => hK213 _ _ (by exact HH214.sel [1, 2, 3, 5, 6] (by decide) rfl) ?_
            have HS215 := HH214.sel [1, 2, 3, 5, 6] (by decide) rfl
            refine dr_done (by kernel_rfl) ?_
            clear HH125 a_130 HE131 a_134 HE135 HH132 a_136 HE137 HS133 a_169 HE170 K_138 hK139 a_172 HE173 HH168 HS171 K_174 hK175 a_196 HE197 K_200 hK201 a_202 HE203 HH198 HS199 a_206 HE207 K_204 hK205 HH208 HS209 hK213 K_212
            refine blk_n ?_
            have E62 : ((L ++ [mvR (rnA y35 p).1])) = (L ++ [((mvR (rnA y35 p).1 + 1) - 1)]) := by
              rw [show mvR (rnA y35 p).1 + 1 - 1 = mvR (rnA y35 p).1 from by omega]
            have E63 : ((p + (rnA y35 p).2)) = (p + (rnA y35 p).2) := by first | rfl | omega
            exact nrm ⟨0 + ((n - 1)), (by omega), (n - 1), (p + (rnA y35 p).2), (L ++ [mvR (rnA y35 p).1]), A_4_1, c_4_1, S_4_1, A_4_2, c_4_2, S_4_2, A59, c60, S61, rfl, HE211.sub ⟨rfl, rfl, rfl, rfl, trivial⟩, ((HH214.sel [1, 2, 0, 3, 4, 5, 6] (by decide) rfl).to (by first | rfl | (rw [E62, E63]; done) | (rw [E62, E63]; rfl) | (simp only [E62, E63]; done) | (simp only [E62, E63]; rfl) | (rw [E62, E63]; simp only [List.length_set]; done))), (by rw [p41_0, movF_step (by omega) (by omega)]; simp), (by first | omega | assumption | (simp; done) | simp_all), (by first | omega | assumption | (simp; done) | simp_all), (by rw [List.length_append]; simp; omega)⟩
      · refine pl fun K_216 hK217 => ?_
        refine st_nextF 3 HE119 HH120 rfl (of_decide_eq_false (decide_eq_false hc42)) rfl (wt0 rfl) rfl fun a_218 HE219 => hK217 _ _ ?_
        refine pl_x HE219 HH120 (wt0 rfl) (x_extract rfl rfl) rfl rfl fun a_220 HE221 => ?_
        refine wpList_nil ?_
        clear HH116 a_114 HE115 HH117 a_118 HE119 a_218 HE219 hK217 K_216
        refine nrm ?_
        refine wp_seq ?_
        refine cndF HE221 rfl rfl ?_
        refine wp_exit ?_
        refine (thn_exit (thn_exit (blk_hit ?_)))
        refine nrm ?_
        refine wp_seq ?_
        refine rg ?_
        refine pl_x HE221 HH120 (wt0 rfl) (x_move rfl) rfl rfl fun a_222 HE223 => ?_
        have ke64 : 4 < (splitR 32 a0).length := by omega
        refine pl_x HE223 HH120 (wt0 rfl) (x_indexAddr ts_78 rfl rfl rfl rfl ke64) rfl rfl fun a_224 HE225 => ?_
        obtain ⟨y65, xy65⟩ : ∃ y_, y_ = (splitR 32 a0)[4]'(by first | exact ke64 | (simp only [List.length_set]; exact ke64) | omega | (simp only [List.length_set]; omega) | (simp; omega)) := ⟨_, rfl⟩
        have jy65 : List.length y65 ≤ 9223372036854775807 := by rw [xy65]; exact i_ownS HH120 5 rfl _
        have hz4 := xy65
        have hpy65 := splitR_piece 32 a0 y65 (by rw [xy65]; exact List.getElem_mem _)
        refine pl_x HE225 HH120 (wt0 rfl) (x_load1 tv_9 rfl (c_ownS 5 rfl (by first | exact ke64 | (simp only [List.length_set]; exact ke64) | omega | (simp only [List.length_set]; omega) | (simp; omega)) xy65.symm)) rfl rfl fun a_226 HE227 => ?_
        refine pl fun K_228 hK229 => ?_
        refine st_call HE227 (wt0 rfl) rfl rfl rfl en_70 rfl rfl (impl_ReadDecimal y65 _ (HH120.glob2 hG) (by omega)) fun e w' hr => ?_
        have hAr66_0 := numR_bd y65
        obtain ⟨rfl, hbr66⟩ := hr
        have HH230 := HH120.on hbr66
        refine ⟨_, rfl, fun a_231 HE232 => hK229 _ _ ?_⟩
        refine pl_x HE232 HH230 (wt0 rfl) (x_move rfl) rfl rfl fun a_233 HE234 => ?_
        refine pl_x HE234 HH230 (wt0 rfl) (x_extract rfl rfl) rfl rfl fun a_235 HE236 => ?_
        refine pl_x HE236 HH230 (wt0 rfl) (x_extract rfl rfl) rfl rfl fun a_237 HE238 => ?_
        refine pl_x HE238 HH230 (wt0 rfl) (x_fieldAddr fa_123_4 rfl) rfl rfl fun a_239 HE240 => ?_
        refine pl fun K_241 hK242 => ?_
        refine st_store (vs := [.int .i64 ((numR y65).1)]) 4 HE240 HH230 tv_2 rfl rfl rfl rfl rfl rfl (by simp [Value.oneCell']) (wt0 rfl) fun w' HH243 => hK242 _ _ ?_
        refine wpList_nil ?_
        clear a_220 HE221 a_222 HE223 a_224 HE225 HH120 a_226 HE227 a_231 HE232 a_233 HE234 a_235 HE236 a_237 HE238 K_228 hK229 HH230 hK242 K_241
        refine nrm ?_
        refine wp_seq ?_
        refine rg ?_
        refine pl_x HE240 HH243 (wt0 rfl) (x_loadN (cs := [.int .i64 ((mrI (splitR 32 a0)).1), .slice A_4_1 ((List.length ((mrI (splitR 32 a0)).2.1))) c_4_1, .slice A_4_2 ((List.length ((mrI (splitR 32 a0)).2.2.1))) c_4_2, .slice A_4_3 ((List.length L)) c_4_3, .int .i64 ((numR y65).1)]) tv_123 rfl rfl (c_blkN 4 rfl)) rfl rfl fun a_244 HE245 => ?_
        refine pl fun K_246 hK247 => ?_
        refine st_store (vs := [.int .i64 ((mrI (splitR 32 a0)).1), .slice A_4_1 ((List.length ((mrI (splitR 32 a0)).2.1))) c_4_1, .slice A_4_2 ((List.length ((mrI (splitR 32 a0)).2.2.1))) c_4_2, .slice A_4_3 ((List.length L)) c_4_3, .int .i64 ((numR y65).1)]) 6 HE245 HH243 tv_123 rfl rfl rfl rfl rfl rfl (by simp [Value.oneCell']) (wt0 rfl) fun w' HH248 => hK247 _ _ ?_
        refine wpList_nil ?_
        clear a_239 HE240 HH243 hK247 K_246
        refine nrm ?_
        refine wp_ret ?_
        refine ret1 HE245 rfl (rv_cell rfl (tv_123.loadN (cs := [.int .i64 ((mrI (splitR 32 a0)).1), .slice A_4_1 ((List.length ((mrI (splitR 32 a0)).2.1))) c_4_1, .slice A_4_2 ((List.length ((mrI (splitR 32 a0)).2.2.1))) c_4_2, .slice A_4_3 ((List.length L)) c_4_3, .int .i64 ((numR y65).1)]) rfl (c_blkN 6 rfl _ HH248))) ?_
        have HH249 := HH248.sel [2, 0, 1, 3, 4, 5, 6] (by decide) rfl
        have HH250 := HH249.vecSo
        have HH251 := HH250.sel [1, 2, 0, 3, 4, 5, 6] (by decide) rfl
        have HH252 := HH251.sel [2, 0, 1, 3, 4, 5, 6] (by decide) rfl
        have HH253 := HH252.pairB (F := eInt) (c2 := [.int .i64 ((numR y65).1)]) (y := (numR y65).1) (oI (by exact ⟨by omega, by omega⟩))
        have HH254 := HH253.sel [2, 0, 1, 3, 4, 5, 6] (by decide) rfl
        have HH255 := HH254.pair
        have HH256 := HH255.sel [1, 0, 2, 3, 4, 5] (by decide) rfl
        have HH257 := HH256.pair
        have HH258 := HH257.pairF (E := eInt) (c1 := [.int .i64 ((mrI (splitR 32 a0)).1)]) (x := (mrI (splitR 32 a0)).1) (oI (by exact ⟨by omega, by omega⟩))
        obtain ⟨S67, HH259⟩ : ∃ S, Held Nob w (rO eMultiRule S [.int .i64 ((mrI (splitR 32 a0)).1), .slice A_4_1 ((List.length ((mrI (splitR 32 a0)).2.1))) c_4_1, .slice A_4_2 ((List.length ((mrI (splitR 32 a0)).2.2.1))) c_4_2, .slice A_4_3 ((List.length L)) c_4_3, .int .i64 ((numR y65).1)] ((mrI (splitR 32 a0)).1, (mrI (splitR 32 a0)).2.1, (mrI (splitR 32 a0)).2.2.1, L, (numR y65).1) :: _) _ := ⟨_, HH258⟩
        have hF : (readMR a0) = ((mrI (splitR 32 a0)).1, (mrI (splitR 32 a0)).2.1, (mrI (splitR 32 a0)).2.2.1, L, (numR y65).1) := by
          first | exact readMR_no (by omega) | exact readMR_fin rfl (by omega) (by omega) hz4 (by have hq := p41_0; rw [movF_end (by omega), List.append_nil] at hq; exact hq)
        exact ⟨_, rfl, by rw [hF]; exact (HH259.o (i := 0) rfl), HH259.below⟩

open Go.Lib in
set_option maxRecDepth 100000 in
set_option maxHeartbeats 4000000 in
theorem spec_l06ReadDigits (a0 : List UInt8) (w : World) (s0 : a0.length ≤ 2000000) :
    Calls Tryz.prog 93 #[.string (bs a0)] w fun e w' => ∃ (A0' : Option Addr) (c0' : Nat), e = .returned (.tuple #[.slice A0' (l06D a0).1.length c0', .bool (l06D a0).2]) ∧ So eInt w' (Fr w w') A0' c0' (l06D a0).1 ∧ Below w.heap.size w w' := by
  have HH1 := Held.start Nob w
  refine enter (n := 30) Tryz.func93 rfl rfl rfl fun a_2 HE3 => ?_
  refine wp_seq ?_
  refine rg ?_
  refine pl_x HE3 HH1 (wt0 rfl) (x_assign rfl) rfl rfl fun a_4 HE5 => ?_
  refine pl_x HE5 HH1 (wt0 rfl) (x_assign rfl) rfl rfl fun a_6 HE7 => ?_
  refine wpList_nil ?_
  clear a_2 HE3 a_4 HE5
  refine nrm ?_
  refine wp_seq ?_
  refine wp_seq ?_
  refine rg ?_
  refine pl_x HE7 HH1 (wt0 rfl) (x_move rfl) rfl rfl fun a_8 HE9 => ?_
  refine pl_x HE9 HH1 (wt0 rfl) (x_lenB Tryz.underlying9 rfl) rfl rfl fun a_10 HE11 => ?_
  refine pl_x HE11 HH1 (wt0 rfl) (x_gtr rfl rfl) rfl rfl fun a_12 HE13 => ?_
  refine wpList_nil ?_
  clear a_6 HE7 a_8 HE9 a_10 HE11
  refine nrm ?_
  refine cnd_d HE13 rfl (fun hc21 => ?_) (fun hc21 => ?_)
  · refine wp_seq ?_
    refine rg ?_
    refine pl_x HE13 HH1 (wt0 rfl) (x_assign rfl) rfl rfl fun a_14 HE15 => ?_
    refine pl_x HE15 HH1 (wt0 rfl) (x_assign rfl) rfl rfl fun a_16 HE17 => ?_
    refine wpList_nil ?_
    clear a_12 HE13 a_14 HE15
    refine nrm ?_
    refine wp_ret ?_
    refine (thn_ret ?_)
    refine ret2 HE17 rfl (rv_tmp rfl) (rv_tmp rfl) ?_
    have hF : (l06D a0) = ([], false) := by
      first | exact l06D_long (by omega) | exact l06D_no (by omega) hx0 (by omega) | exact l06D_yes (by omega) (by omega) p0_1
    exact ⟨none, 0, by first | (rw [hF] <;> rfl) | rfl | (rw [hF]; simp only [Ending.returned.injEq, Value.slice.injEq, true_and, and_true]; first | omega | (simp; done)) | (rw [hF]; simp; omega), by rw [hF]; exact (So.nil (Nat.zero_le _)), HH1.below⟩
  · refine wp_skip ?_
    refine nrm ?_
    refine wp_seq ?_
    refine rg ?_
    refine pl fun K_18 hK19 => ?_
    refine st_lit (m := 0) (cs := []) (e := 2) HE13 HH1 (run_lit ts_25 HE13 (vs := []) rfl rfl (by simp [Value.cells]) rfl (by decide)) (wt0 rfl) rfl rfl fun q22 a_20 w' HE21 HH22 => hK19 _ _ ?_
    refine pl_x HE21 HH22 (wt0 rfl) (x_assign rfl) rfl rfl fun a_23 HE24 => ?_
    refine wpList_nil ?_
    clear a_12 HE13 HH1 a_20 HE21 hK19 K_18
    refine nrm ?_
    refine wp_seq ?_
    refine wp_seq ?_
    refine rg ?_
    refine pl_x HE24 HH22 (wt0 rfl) (x_assign rfl) rfl rfl fun a_25 HE26 => ?_
    refine wpList_nil ?_
    clear a_23 HE24
    refine nrm ?_
    refine wp_block ?_
    have HH27 := Held.vecFlat (E := eInt) (xs := []) (css := []) HH22 rfl (Nat.zero_le _) (fun i x hx => by simp at hx)
    refine lp (fun m a w' => ∃ (k : Nat) (A_4 : Option Addr) (c_4 : Nat) (S_4 : Nat → Prop), m = a0.length - k ∧ Env 30 [(4, .slice A_4 (List.length ((a0.take k).map dgI)) c_4), (5, .int .i64 (k : Int)), (0, .string (bs a0))] a ∧ Held Nob w [rVec eInt 2 S_4 A_4 c_4 ((a0.take k).map dgI)] w' ∧ (k ≤ a0.length) ∧ ((a0.take k).all isDg = true)) (a0.length - (0)) ?_ ?_
    · have E23 : (a0.take 0).map dgI = ([] : List Int) := by
        simp
      exact ⟨0, (some ⟨q22, 0, none⟩), (List.length (α := Int) []), (fun b => b = q22), rfl, HE26.sub ⟨(by rw [E23]; rfl), (lkI rfl (by first | rfl | omega | (simp [hc21]; done))), rfl, trivial⟩, ((HH27.sel [0] (by decide) rfl).to (by first | rfl | (rw [E23]; done) | (rw [E23]; rfl) | (simp only [E23]; done) | (simp only [E23]; rfl) | (rw [E23]; simp only [List.length_set]; done))), (by first | omega | assumption | (simp; done) | simp_all), (by simp)⟩
    · rintro m a_28 w' ⟨k, A_4, c_4, S_4, rfl, HE29, HH30, p24_0, p24_1⟩
      have hn0 : ((a0.take k).map dgI).length ≤ a0.length := by rw [List.length_map, List.length_take]; omega
      refine wp_seq ?_
      refine wp_seq ?_
      refine rg ?_
      refine pl_x HE29 HH30 (wt0 rfl) (x_move rfl) rfl rfl fun a_31 HE32 => ?_
      refine pl_x HE32 HH30 (wt0 rfl) (x_move rfl) rfl rfl fun a_33 HE34 => ?_
      refine pl_x HE34 HH30 (wt0 rfl) (x_lenB Tryz.underlying9 rfl) rfl rfl fun a_35 HE36 => ?_
      refine pl_x HE36 HH30 (wt0 rfl) (x_lss rfl rfl) rfl rfl fun a_37 HE38 => ?_
      refine wpList_nil ?_
      clear HH22 a_25 HE26 HH27 a_28 HE29 a_31 HE32 a_33 HE34 a_35 HE36
      refine nrm ?_
      refine cnd_d HE38 rfl (fun hc25 => ?_) (fun hc25 => ?_)
      · refine wp_skip ?_
        refine nrm ?_
        refine wp_seq ?_
        refine wp_block ?_
        refine wp_seq ?_
        refine wp_seq ?_
        refine rg ?_
        refine pl_x HE38 HH30 (wt0 rfl) (x_move rfl) rfl rfl fun a_39 HE40 => ?_
        refine pl_x HE40 HH30 (wt0 rfl) (x_move rfl) rfl rfl fun a_41 HE42 => ?_
        have ke26 : k < List.length a0 := by first | omega | (simp only [List.length_cons, List.length_nil]; omega)
        obtain ⟨e26, xe26⟩ : ∃ x_, x_ = a0[k] := ⟨_, rfl⟩
        have je26 : 0 ≤ (e26.toNat : Int) ∧ (e26.toNat : Int) ≤ 255 := by have := e26.toNat_lt; omega
        have hx0 := xe26
        refine pl_x HE42 HH30 (wt0 rfl) (x_idxB Tryz.underlying9 rfl rfl rfl ke26 xe26) rfl rfl fun a_43 HE44 => ?_
        refine pl fun K_45 hK46 => ?_
        refine st_call HE44 (wt0 rfl) rfl rfl rfl en_116 rfl rfl (spec_l01Digit (e26.toNat : Int) _ ) fun e w' hr => ?_
        obtain ⟨rfl, hbr27⟩ := hr
        have HH47 := HH30.on hbr27
        refine ⟨_, rfl, fun a_48 HE49 => hK46 _ _ ?_⟩
        refine pl_x HE49 HH47 (wt0 rfl) (x_not rfl) rfl rfl fun a_50 HE51 => ?_
        refine wpList_nil ?_
        clear a_37 HE38 a_39 HE40 a_41 HE42 HH30 a_43 HE44 a_48 HE49 hK46 K_45
        refine nrm ?_
        refine cnd_nb HE51 rfl (fun hc28 => ?_) (fun hc28 => ?_)
        · have d0 := hc28
          unfold digB at d0
          simp only [Bool.and_eq_false_iff, decide_eq_false_iff_not] at d0
          refine wp_seq ?_
          refine rg ?_
          refine pl_x HE51 HH47 (wt0 rfl) (x_assign rfl) rfl rfl fun a_52 HE53 => ?_
          refine pl_x HE53 HH47 (wt0 rfl) (x_assign rfl) rfl rfl fun a_54 HE55 => ?_
          refine wpList_nil ?_
          clear a_50 HE51 a_52 HE53
          refine nrm ?_
          refine wp_ret ?_
          refine (thn_ret (blk_ret (thn_ret (thn_ret (blk_ret (thn_ret ?_))))))
          refine ret2 HE55 rfl (rv_tmp rfl) (rv_tmp rfl) ?_
          have hF : (l06D a0) = ([], false) := by
            first | exact l06D_long (by omega) | exact l06D_no (by omega) hx0 (by omega) | exact l06D_yes (by omega) (by omega) p24_1
          exact ⟨none, 0, by first | (rw [hF] <;> rfl) | rfl | (rw [hF]; simp only [Ending.returned.injEq, Value.slice.injEq, true_and, and_true]; first | omega | (simp; done)) | (rw [hF]; simp; omega), by rw [hF]; exact (So.nil (Nat.zero_le _)), HH47.below⟩
        · have d0 := hc28
          unfold digB at d0
          simp only [Bool.and_eq_true, decide_eq_true_eq] at d0
          refine wp_skip ?_
          refine nrm ?_
          refine rg ?_
          refine pl_x HE51 HH47 (wt0 rfl) (x_move rfl) rfl rfl fun a_56 HE57 => ?_
          refine pl_x HE57 HH47 (wt0 rfl) (x_move rfl) rfl rfl fun a_58 HE59 => ?_
          refine pl_x HE59 HH47 (wt0 rfl) (x_move rfl) rfl rfl fun a_60 HE61 => ?_
          refine pl_x HE61 HH47 (wt0 rfl) (x_idxB Tryz.underlying9 rfl rfl rfl ke26 xe26) rfl rfl fun a_62 HE63 => ?_
          refine pl_x HE63 HH47 (wt0 rfl) (x_sub8 rfl rfl (by constructor <;> omega)) rfl rfl fun a_64 HE65 => ?_
          refine pl_x HE65 HH47 (wt0 rfl) (x_conv Tryz.underlying5 Tryz.underlying2 rfl (by exact ⟨by omega, by omega⟩)) rfl rfl fun a_66 HE67 => ?_
          refine pl fun K_68 hK69 => ?_
          refine st_lit (m := 1) (cs := [.int .i64 (((e26.toNat : Int) - 48))]) (e := 2) HE67 HH47 (run_lit ts_25 HE67 (vs := [.int .i64 (((e26.toNat : Int) - 48))]) rfl rfl (by simp [Value.cells]) rfl (by decide)) (wt0 rfl) rfl rfl fun q29 a_70 w' HE71 HH72 => hK69 _ _ ?_
          refine pl fun K_73 hK74 => ?_
          refine st_app1F ((e26.toNat : Int) - 48) HE71 HH72 ts_25 [1, 0] (by decide) rfl (fun _ => (oI (by exact ⟨by omega, by omega⟩))) rfl rfl (by simp [Value.oneCell']) (by unfold maxLen; first | omega | (simp; done) | (simp; omega)) (by first | omega | (simp; done) | (simp; omega)) (wt0 rfl) rfl fun A30 c31 S32 a_75 w' HE76 HH77 => hK74 _ _ ?_
          refine pl_x HE76 HH77 (wt0 rfl) (x_assign rfl) rfl rfl fun a_78 HE79 => ?_
          refine wpList_nil ?_
          clear a_50 HE51 a_56 HE57 a_58 HE59 a_60 HE61 a_62 HE63 a_64 HE65 a_66 HE67 HH47 K_68 hK69 a_70 HE71 HH72 a_75 HE76 hK74 K_73
          refine blk_n ?_
          refine nrm ?_
          refine rg ?_
          refine pl_x HE79 HH77 (wt0 rfl) (x_move rfl) rfl rfl fun a_80 HE81 => ?_
          refine pl_x HE81 HH77 (wt0 rfl) (x_add rfl rfl (by exact ⟨by omega, by omega⟩)) rfl rfl fun a_82 HE83 => ?_
          refine pl_x HE83 HH77 (wt0 rfl) (x_assign rfl) rfl rfl fun a_84 HE85 => ?_
          refine wpList_nil ?_
          clear a_78 HE79 a_80 HE81 a_82 HE83
          have E33 : (a0.take (k + 1)).map dgI = ((a0.take k).map dgI ++ [((e26.toNat : Int) - 48)]) := by
            exact dgI_snoc (by omega) hx0
          exact nrm ⟨a0.length - (k + 1), (by omega), k + 1, A30, c31, S32, rfl, HE85.sub ⟨(by rw [E33]; rfl), (lkI rfl (by first | rfl | omega | (simp [hc21, p24_0, p24_1, hc25, xe26, hc28]; done))), rfl, trivial⟩, ((HH77.sel [0] (by decide) rfl).to (by first | rfl | (rw [E33]; done) | (rw [E33]; rfl) | (simp only [E33]; done) | (simp only [E33]; rfl) | (rw [E33]; simp only [List.length_set]; done))), (by first | omega | assumption | (simp; done) | simp_all), (by exact digs_snoc (by omega) p24_1 hx0 (by omega))⟩
      · refine wp_exit ?_
        refine (thn_exit (thn_exit (blk_hit ?_)))
        refine nrm ?_
        refine wp_seq ?_
        refine rg ?_
        refine pl_x HE38 HH30 (wt0 rfl) (x_move rfl) rfl rfl fun a_86 HE87 => ?_
        refine pl_x HE87 HH30 (wt0 rfl) (x_assign rfl) rfl rfl fun a_88 HE89 => ?_
        refine pl_x HE89 HH30 (wt0 rfl) (x_assign rfl) rfl rfl fun a_90 HE91 => ?_
        refine wpList_nil ?_
        clear a_37 HE38 a_86 HE87 a_88 HE89
        refine nrm ?_
        refine wp_ret ?_
        refine ret2 HE91 rfl (rv_tmp rfl) (rv_tmp rfl) ?_
        have HH92 := HH30.vecSo
        have hF : (l06D a0) = ((a0.take k).map dgI, true) := by
          first | exact l06D_long (by omega) | exact l06D_no (by omega) hx0 (by omega) | exact l06D_yes (by omega) (by omega) p24_1
        exact ⟨A_4, c_4, by first | (rw [hF] <;> rfl) | rfl | (rw [hF]; simp only [Ending.returned.injEq, Value.slice.injEq, true_and, and_true]; first | omega | (simp; done)) | (rw [hF]; simp; omega), by rw [hF]; exact (HH92.so (i := 0) rfl), HH92.below⟩

open Go.Lib in
set_option maxRecDepth 100000 in
set_option maxHeartbeats 4000000 in
theorem spec_l06ReadMoves (a0 : List UInt8) (w : World) (s0 : a0.length ≤ 2000000) :
    Calls Tryz.prog 94 #[.string (bs a0)] w fun e w' => ∃ (A0' : Option Addr) (c0' : Nat), e = .returned (.tuple #[.slice A0' (movS a0).1.length c0', .bool (movS a0).2]) ∧ So eInt w' (Fr w w') A0' c0' (movS a0).1 ∧ Below w.heap.size w w' := by
  have HH1 := Held.start Nob w
  refine enter (n := 32) Tryz.func94 rfl rfl rfl fun a_2 HE3 => ?_
  refine wp_seq ?_
  refine rg ?_
  refine pl_x HE3 HH1 (wt0 rfl) (x_assign rfl) rfl rfl fun a_4 HE5 => ?_
  refine pl_x HE5 HH1 (wt0 rfl) (x_assign rfl) rfl rfl fun a_6 HE7 => ?_
  refine wpList_nil ?_
  clear a_2 HE3 a_4 HE5
  refine nrm ?_
  refine wp_seq ?_
  refine rg ?_
  refine pl fun K_8 hK9 => ?_
  refine st_lit (m := 0) (cs := []) (e := 2) HE7 HH1 (run_lit ts_25 HE7 (vs := []) rfl rfl (by simp [Value.cells]) rfl (by decide)) (wt0 rfl) rfl rfl fun q21 a_10 w' HE11 HH12 => hK9 _ _ ?_
  refine pl_x HE11 HH12 (wt0 rfl) (x_assign rfl) rfl rfl fun a_13 HE14 => ?_
  refine wpList_nil ?_
  clear a_6 HE7 HH1 a_10 HE11 hK9 K_8
  refine nrm ?_
  refine wp_seq ?_
  refine wp_seq ?_
  refine rg ?_
  refine pl_x HE14 HH12 (wt0 rfl) (x_assign rfl) rfl rfl fun a_15 HE16 => ?_
  refine wpList_nil ?_
  clear a_13 HE14
  refine nrm ?_
  refine wp_block ?_
  have HH17 := Held.vecFlat (E := eInt) (xs := []) (css := []) HH12 rfl (Nat.zero_le _) (fun i x hx => by simp at hx)
  refine lp (fun m a w' => ∃ (k : Nat) (A_4 : Option Addr) (c_4 : Nat) (S_4 : Nat → Prop), m = a0.length - k ∧ Env 32 [(4, .slice A_4 (List.length ((a0.take k).map mvS)) c_4), (5, .int .i64 (k : Int)), (0, .string (bs a0))] a ∧ Held Nob w [rVec eInt 2 S_4 A_4 c_4 ((a0.take k).map mvS)] w' ∧ (k ≤ a0.length) ∧ ((a0.take k).all mvK = true)) (a0.length - (0)) ?_ ?_
  · have E22 : (a0.take 0).map mvS = ([] : List Int) := by
      simp
    exact ⟨0, (some ⟨q21, 0, none⟩), (List.length (α := Int) []), (fun b => b = q21), rfl, HE16.sub ⟨(by rw [E22]; rfl), (lkI rfl (by first | rfl | omega | (simp []; done))), rfl, trivial⟩, ((HH17.sel [0] (by decide) rfl).to (by first | rfl | (rw [E22]; done) | (rw [E22]; rfl) | (simp only [E22]; done) | (simp only [E22]; rfl) | (rw [E22]; simp only [List.length_set]; done))), (by first | omega | assumption | (simp; done) | simp_all), (by simp)⟩
  · rintro m a_18 w' ⟨k, A_4, c_4, S_4, rfl, HE19, HH20, p23_0, p23_1⟩
    have hn0 : ((a0.take k).map mvS).length ≤ a0.length := by rw [List.length_map, List.length_take]; omega
    refine wp_seq ?_
    refine wp_seq ?_
    refine rg ?_
    refine pl_x HE19 HH20 (wt0 rfl) (x_move rfl) rfl rfl fun a_21 HE22 => ?_
    refine pl_x HE22 HH20 (wt0 rfl) (x_move rfl) rfl rfl fun a_23 HE24 => ?_
    refine pl_x HE24 HH20 (wt0 rfl) (x_lenB Tryz.underlying9 rfl) rfl rfl fun a_25 HE26 => ?_
    refine pl_x HE26 HH20 (wt0 rfl) (x_lss rfl rfl) rfl rfl fun a_27 HE28 => ?_
    refine wpList_nil ?_
    clear HH12 a_15 HE16 HH17 a_18 HE19 a_21 HE22 a_23 HE24 a_25 HE26
    refine nrm ?_
    refine cnd_d HE28 rfl (fun hc24 => ?_) (fun hc24 => ?_)
    · refine wp_skip ?_
      refine nrm ?_
      refine wp_seq ?_
      refine wp_block ?_
      refine wp_seq ?_
      refine rg ?_
      refine pl_x HE28 HH20 (wt0 rfl) (x_move rfl) rfl rfl fun a_29 HE30 => ?_
      refine pl_x HE30 HH20 (wt0 rfl) (x_move rfl) rfl rfl fun a_31 HE32 => ?_
      have ke25 : k < List.length a0 := by first | omega | (simp only [List.length_cons, List.length_nil]; omega)
      obtain ⟨e25, xe25⟩ : ∃ x_, x_ = a0[k] := ⟨_, rfl⟩
      have je25 : 0 ≤ (e25.toNat : Int) ∧ (e25.toNat : Int) ≤ 255 := by have := e25.toNat_lt; omega
      have hx0 := xe25
      refine pl_x HE32 HH20 (wt0 rfl) (x_idxB Tryz.underlying9 rfl rfl rfl ke25 xe25) rfl rfl fun a_33 HE34 => ?_
      refine wpList_nil ?_
      clear a_27 HE28 a_29 HE30 a_31 HE32
      refine nrm ?_
      refine wp_block ?_
      refine wp_seq ?_
      refine rg ?_
      refine pl_x HE34 HH20 (wt0 rfl) (x_eql rfl rfl) rfl rfl fun a_35 HE36 => ?_
      refine pl_x HE36 HH20 (wt0 rfl) (x_assign rfl) rfl rfl fun a_37 HE38 => ?_
      refine wpList_nil ?_
      clear a_33 HE34 a_35 HE36
      refine nrm ?_
      refine cnd_e HE38 rfl (fun hc26 => ?_) (fun hc26 => ?_)
      · refine rg ?_
        refine pl_x HE38 HH20 (wt0 rfl) (x_move rfl) rfl rfl fun a_39 HE40 => ?_
        refine pl fun K_41 hK42 => ?_
        refine st_lit (m := 1) (cs := [.int .i64 (-1)]) (e := 2) HE40 HH20 (run_lit ts_25 HE40 (vs := [.int .i64 (-1)]) rfl rfl (by simp [Value.cells]) rfl (by decide)) (wt0 rfl) rfl rfl fun q27 a_43 w' HE44 HH45 => hK42 _ _ ?_
        refine pl fun K_46 hK47 => ?_
        refine st_app1F (-1) HE44 HH45 ts_25 [1, 0] (by decide) rfl (fun _ => (oI (by exact ⟨by omega, by omega⟩))) rfl rfl (by simp [Value.oneCell']) (by unfold maxLen; first | omega | (simp; done) | (simp; omega)) (by first | omega | (simp; done) | (simp; omega)) (wt0 rfl) rfl fun A28 c29 S30 a_48 w' HE49 HH50 => hK47 _ _ ?_
        refine pl_x HE49 HH50 (wt0 rfl) (x_assign rfl) rfl rfl fun a_51 HE52 => ?_
        refine wpList_nil ?_
        clear a_37 HE38 a_39 HE40 HH20 K_41 hK42 a_43 HE44 HH45 a_48 HE49 hK47 K_46
        refine blk_n ?_
        refine blk_n ?_
        refine nrm ?_
        refine rg ?_
        refine pl_x HE52 HH50 (wt0 rfl) (x_move rfl) rfl rfl fun a_53 HE54 => ?_
        refine pl_x HE54 HH50 (wt0 rfl) (x_add rfl rfl (by exact ⟨by omega, by omega⟩)) rfl rfl fun a_55 HE56 => ?_
        refine pl_x HE56 HH50 (wt0 rfl) (x_assign rfl) rfl rfl fun a_57 HE58 => ?_
        refine wpList_nil ?_
        clear a_51 HE52 a_53 HE54 a_55 HE56
        have E31 : (a0.take (k + 1)).map mvS = ((a0.take k).map mvS ++ [-1]) := by
          first | exact mvS_snoc (by omega) hx0 (mv_76 (by assumption)).1 | exact mvS_snoc (by omega) hx0 (mv_83 (by assumption)).1 | exact mvS_snoc (by omega) hx0 (mv_82 (by assumption)).1
        exact nrm ⟨a0.length - (k + 1), (by omega), k + 1, A28, c29, S30, rfl, HE58.sub ⟨(by rw [E31]; rfl), (lkI rfl (by first | rfl | omega | (simp [p23_0, p23_1, hc24, xe25, hc26]; done))), rfl, trivial⟩, ((HH50.sel [0] (by decide) rfl).to (by first | rfl | (rw [E31]; done) | (rw [E31]; rfl) | (simp only [E31]; done) | (simp only [E31]; rfl) | (rw [E31]; simp only [List.length_set]; done))), (by first | omega | assumption | (simp; done) | simp_all), (by first | exact mvK_snoc (by omega) p23_1 hx0 (mv_76 (by assumption)).2 | exact mvK_snoc (by omega) p23_1 hx0 (mv_83 (by assumption)).2 | exact mvK_snoc (by omega) p23_1 hx0 (mv_82 (by assumption)).2)⟩
      · refine wp_seq ?_
        refine rg ?_
        refine pl_x HE38 HH20 (wt0 rfl) (x_eql rfl rfl) rfl rfl fun a_59 HE60 => ?_
        refine pl_x HE60 HH20 (wt0 rfl) (x_assign rfl) rfl rfl fun a_61 HE62 => ?_
        refine wpList_nil ?_
        clear a_37 HE38 a_59 HE60
        refine nrm ?_
        refine cnd_e HE62 rfl (fun hc32 => ?_) (fun hc32 => ?_)
        · refine rg ?_
          refine pl_x HE62 HH20 (wt0 rfl) (x_move rfl) rfl rfl fun a_63 HE64 => ?_
          refine pl fun K_65 hK66 => ?_
          refine st_lit (m := 1) (cs := [.int .i64 (0)]) (e := 2) HE64 HH20 (run_lit ts_25 HE64 (vs := [.int .i64 (0)]) rfl rfl (by simp [Value.cells]) rfl (by decide)) (wt0 rfl) rfl rfl fun q33 a_67 w' HE68 HH69 => hK66 _ _ ?_
          refine pl fun K_70 hK71 => ?_
          refine st_app1F 0 HE68 HH69 ts_25 [1, 0] (by decide) rfl (fun _ => (oI (by exact ⟨by omega, by omega⟩))) rfl rfl (by simp [Value.oneCell']) (by unfold maxLen; first | omega | (simp; done) | (simp; omega)) (by first | omega | (simp; done) | (simp; omega)) (wt0 rfl) rfl fun A34 c35 S36 a_72 w' HE73 HH74 => hK71 _ _ ?_
          refine pl_x HE73 HH74 (wt0 rfl) (x_assign rfl) rfl rfl fun a_75 HE76 => ?_
          refine wpList_nil ?_
          clear a_61 HE62 a_63 HE64 HH20 K_65 hK66 a_67 HE68 HH69 a_72 HE73 hK71 K_70
          refine blk_n ?_
          refine blk_n ?_
          refine nrm ?_
          refine rg ?_
          refine pl_x HE76 HH74 (wt0 rfl) (x_move rfl) rfl rfl fun a_77 HE78 => ?_
          refine pl_x HE78 HH74 (wt0 rfl) (x_add rfl rfl (by exact ⟨by omega, by omega⟩)) rfl rfl fun a_79 HE80 => ?_
          refine pl_x HE80 HH74 (wt0 rfl) (x_assign rfl) rfl rfl fun a_81 HE82 => ?_
          refine wpList_nil ?_
          clear a_75 HE76 a_77 HE78 a_79 HE80
          have E37 : (a0.take (k + 1)).map mvS = ((a0.take k).map mvS ++ [0]) := by
            first | exact mvS_snoc (by omega) hx0 (mv_76 (by assumption)).1 | exact mvS_snoc (by omega) hx0 (mv_83 (by assumption)).1 | exact mvS_snoc (by omega) hx0 (mv_82 (by assumption)).1
          exact nrm ⟨a0.length - (k + 1), (by omega), k + 1, A34, c35, S36, rfl, HE82.sub ⟨(by rw [E37]; rfl), (lkI rfl (by first | rfl | omega | (simp [p23_0, p23_1, hc24, xe25, hc26, hc32]; done))), rfl, trivial⟩, ((HH74.sel [0] (by decide) rfl).to (by first | rfl | (rw [E37]; done) | (rw [E37]; rfl) | (simp only [E37]; done) | (simp only [E37]; rfl) | (rw [E37]; simp only [List.length_set]; done))), (by first | omega | assumption | (simp; done) | simp_all), (by first | exact mvK_snoc (by omega) p23_1 hx0 (mv_76 (by assumption)).2 | exact mvK_snoc (by omega) p23_1 hx0 (mv_83 (by assumption)).2 | exact mvK_snoc (by omega) p23_1 hx0 (mv_82 (by assumption)).2)⟩
        · refine wp_seq ?_
          refine rg ?_
          refine pl_x HE62 HH20 (wt0 rfl) (x_eql rfl rfl) rfl rfl fun a_83 HE84 => ?_
          refine pl_x HE84 HH20 (wt0 rfl) (x_assign rfl) rfl rfl fun a_85 HE86 => ?_
          refine wpList_nil ?_
          clear a_61 HE62 a_83 HE84
          refine nrm ?_
          refine cnd_e HE86 rfl (fun hc38 => ?_) (fun hc38 => ?_)
          · refine rg ?_
            refine pl_x HE86 HH20 (wt0 rfl) (x_move rfl) rfl rfl fun a_87 HE88 => ?_
            refine pl fun K_89 hK90 => ?_
            refine st_lit (m := 1) (cs := [.int .i64 (1)]) (e := 2) HE88 HH20 (run_lit ts_25 HE88 (vs := [.int .i64 (1)]) rfl rfl (by simp [Value.cells]) rfl (by decide)) (wt0 rfl) rfl rfl fun q39 a_91 w' HE92 HH93 => hK90 _ _ ?_
            refine pl fun K_94 hK95 => ?_
            refine st_app1F 1 HE92 HH93 ts_25 [1, 0] (by decide) rfl (fun _ => (oI (by exact ⟨by omega, by omega⟩))) rfl rfl (by simp [Value.oneCell']) (by unfold maxLen; first | omega | (simp; done) | (simp; omega)) (by first | omega | (simp; done) | (simp; omega)) (wt0 rfl) rfl fun A40 c41 S42 a_96 w' HE97 HH98 => hK95 _ _ ?_
            refine pl_x HE97 HH98 (wt0 rfl) (x_assign rfl) rfl rfl fun a_99 HE100 => ?_
            refine wpList_nil ?_
            clear a_85 HE86 a_87 HE88 HH20 K_89 hK90 a_91 HE92 HH93 a_96 HE97 hK95 K_94
            refine blk_n ?_
            refine blk_n ?_
            refine nrm ?_
            refine rg ?_
            refine pl_x HE100 HH98 (wt0 rfl) (x_move rfl) rfl rfl fun a_101 HE102 => ?_
            refine pl_x HE102 HH98 (wt0 rfl) (x_add rfl rfl (by exact ⟨by omega, by omega⟩)) rfl rfl fun a_103 HE104 => ?_
            refine pl_x HE104 HH98 (wt0 rfl) (x_assign rfl) rfl rfl fun a_105 HE106 => ?_
            refine wpList_nil ?_
            clear a_99 HE100 a_101 HE102 a_103 HE104
            have E43 : (a0.take (k + 1)).map mvS = ((a0.take k).map mvS ++ [1]) := by
              first | exact mvS_snoc (by omega) hx0 (mv_76 (by assumption)).1 | exact mvS_snoc (by omega) hx0 (mv_83 (by assumption)).1 | exact mvS_snoc (by omega) hx0 (mv_82 (by assumption)).1
            exact nrm ⟨a0.length - (k + 1), (by omega), k + 1, A40, c41, S42, rfl, HE106.sub ⟨(by rw [E43]; rfl), (lkI rfl (by first | rfl | omega | (simp [p23_0, p23_1, hc24, xe25, hc26, hc32, hc38]; done))), rfl, trivial⟩, ((HH98.sel [0] (by decide) rfl).to (by first | rfl | (rw [E43]; done) | (rw [E43]; rfl) | (simp only [E43]; done) | (simp only [E43]; rfl) | (rw [E43]; simp only [List.length_set]; done))), (by first | omega | assumption | (simp; done) | simp_all), (by first | exact mvK_snoc (by omega) p23_1 hx0 (mv_76 (by assumption)).2 | exact mvK_snoc (by omega) p23_1 hx0 (mv_83 (by assumption)).2 | exact mvK_snoc (by omega) p23_1 hx0 (mv_82 (by assumption)).2)⟩
          · refine wp_seq ?_
            refine rg ?_
            refine pl_x HE86 HH20 (wt0 rfl) (x_assign rfl) rfl rfl fun a_107 HE108 => ?_
            refine pl_x HE108 HH20 (wt0 rfl) (x_assign rfl) rfl rfl fun a_109 HE110 => ?_
            refine wpList_nil ?_
            clear a_85 HE86 a_107 HE108
            refine nrm ?_
            refine wp_ret ?_
            refine (blk_ret (blk_ret (thn_ret (thn_ret (blk_ret (thn_ret ?_))))))
            refine ret2 HE110 rfl (rv_tmp rfl) (rv_tmp rfl) ?_
            have hF : (movS a0) = ([], false) := by
              first | exact movS_yes (by omega) p23_1 | exact movS_no (by omega) hx0 (mv_no (by assumption) (by assumption) (by assumption))
            exact ⟨none, 0, by first | (rw [hF] <;> rfl) | rfl | (rw [hF]; simp only [Ending.returned.injEq, Value.slice.injEq, true_and, and_true]; first | omega | (simp; done)) | (rw [hF]; simp; omega), by rw [hF]; exact (So.nil (Nat.zero_le _)), HH20.below⟩
    · refine wp_exit ?_
      refine (thn_exit (thn_exit (blk_hit ?_)))
      refine nrm ?_
      refine wp_seq ?_
      refine rg ?_
      refine pl_x HE28 HH20 (wt0 rfl) (x_move rfl) rfl rfl fun a_111 HE112 => ?_
      refine pl_x HE112 HH20 (wt0 rfl) (x_assign rfl) rfl rfl fun a_113 HE114 => ?_
      refine pl_x HE114 HH20 (wt0 rfl) (x_assign rfl) rfl rfl fun a_115 HE116 => ?_
      refine wpList_nil ?_
      clear a_27 HE28 a_111 HE112 a_113 HE114
      refine nrm ?_
      refine wp_ret ?_
      refine ret2 HE116 rfl (rv_tmp rfl) (rv_tmp rfl) ?_
      have HH117 := HH20.vecSo
      have hF : (movS a0) = ((a0.take k).map mvS, true) := by
        first | exact movS_yes (by omega) p23_1 | exact movS_no (by omega) hx0 (mv_no (by assumption) (by assumption) (by assumption))
      exact ⟨A_4, c_4, by first | (rw [hF] <;> rfl) | rfl | (rw [hF]; simp only [Ending.returned.injEq, Value.slice.injEq, true_and, and_true]; first | omega | (simp; done)) | (rw [hF]; simp; omega), by rw [hF]; exact (HH117.so (i := 0) rfl), HH117.below⟩

open Go.Lib in
set_option maxRecDepth 100000 in
set_option maxHeartbeats 4000000 in
theorem impl_ReadMulti (a0 : List UInt8) (w : World) (hG : Glob2 w) (s0 : a0.length ≤ 2000000) :
    Calls Tryz.prog 37 #[.string (bs a0)] w fun e w' => ∃ (es0' : List Value), e = .returned (.tuple #[.agg es0'.toArray, .bool (rdMuI a0).2]) ∧ eMulti.O w' (Fr w w') es0' (rdMuI a0).1 ∧ Below w.heap.size w w' := by
  have hA0 := splitR_len 10 a0
  have HH1 := Held.start Nob w
  refine enter (n := 75) Tryz.func37 rfl rfl rfl fun a_2 HE3 => ?_
  refine wp_seq ?_
  refine rg ?_
  refine pl fun K_4 hK5 => ?_
  refine st_alloc HE3 HH1 tv_68 (wt0 rfl) rfl fun q21 a_6 w' HE7 HH8 => hK5 _ _ ?_
  refine pl_x HE7 HH8 (wt0 rfl) (x_assign rfl) rfl rfl fun a_9 HE10 => ?_
  refine wpList_nil ?_
  clear a_2 HE3 HH1 a_6 HE7 hK5 K_4
  refine nrm ?_
  refine wp_seq ?_
  refine rg ?_
  refine pl_x HE10 HH8 (wt0 rfl) (x_move rfl) rfl rfl fun a_11 HE12 => ?_
  refine pl fun K_13 hK14 => ?_
  refine st_call HE12 (wt0 rfl) rfl rfl rfl en_78 rfl rfl (Split_1 a0 ([10]) 10 _ (HH8.glob2 hG) (by omega) (by rfl)) fun e w' hr => ?_
  have hAr22_0 := splitR_len 10 a0
  have hAr22_1 := splitR_piece 10 a0
  obtain ⟨Ar22_0, cr22_0, rfl, hor22_0, hbr22⟩ := hr
  obtain ⟨Sr22, HH15⟩ := HH8.newS hbr22 hor22_0
  refine ⟨_, rfl, fun a_16 HE17 => hK14 _ _ ?_⟩
  refine pl_x HE17 HH15 (wt0 rfl) (x_assign rfl) rfl rfl fun a_18 HE19 => ?_
  refine wpList_nil ?_
  clear a_9 HE10 HH8 a_11 HE12 a_16 HE17 hK14 K_13
  refine nrm ?_
  refine wp_seq ?_
  refine rg ?_
  refine pl_x HE19 HH15 (wt0 rfl) (x_move rfl) rfl rfl fun a_20 HE21 => ?_
  have ke23 : 0 < (splitR 10 a0).length := by omega
  obtain ⟨be23, fe23, rfl⟩ := el_own HH15 (i := 0) rfl ke23
  refine pl_x HE21 HH15 (wt0 rfl) (x_indexAddr ts_78 rfl rfl rfl rfl ke23) rfl rfl fun a_22 HE23 => ?_
  obtain ⟨y24, xy24⟩ : ∃ y_, y_ = (splitR 10 a0)[0]'(by first | exact ke23 | (simp only [List.length_set]; exact ke23) | omega | (simp only [List.length_set]; omega) | (simp; omega)) := ⟨_, rfl⟩
  have jy24 : List.length y24 ≤ 9223372036854775807 := by rw [xy24]; exact i_ownS HH15 0 rfl _
  have hx0 := xy24
  have hpy24 := splitR_piece 10 a0 y24 (by rw [xy24]; exact List.getElem_mem _)
  refine pl_x HE23 HH15 (wt0 rfl) (x_load1 tv_9 rfl (c_ownS 0 rfl (by first | exact ke23 | (simp only [List.length_set]; exact ke23) | omega | (simp only [List.length_set]; omega) | (simp; omega)) xy24.symm)) rfl rfl fun a_24 HE25 => ?_
  refine pl fun K_26 hK27 => ?_
  refine st_call HE25 (wt0 rfl) rfl rfl rfl en_78 rfl rfl (Split_1 y24 ([32]) 32 _ (HH15.glob2 hG) (by omega) (by rfl)) fun e w' hr => ?_
  have hAr25_0 := splitR_len 32 y24
  have hAr25_1 := splitR_piece 32 y24
  obtain ⟨Ar25_0, cr25_0, rfl, hor25_0, hbr25⟩ := hr
  obtain ⟨Sr25, HH28⟩ := HH15.newS hbr25 hor25_0
  refine ⟨_, rfl, fun a_29 HE30 => hK27 _ _ ?_⟩
  refine pl_x HE30 HH28 (wt0 rfl) (x_assign rfl) rfl rfl fun a_31 HE32 => ?_
  refine wpList_nil ?_
  clear a_18 HE19 a_20 HE21 a_22 HE23 HH15 a_24 HE25 a_29 HE30 hK27 K_26
  refine nrm ?_
  refine wp_seq ?_
  refine wp_seq ?_
  refine rg ?_
  refine pl_x HE32 HH28 (wt0 rfl) (x_move rfl) rfl rfl fun a_33 HE34 => ?_
  refine pl_x HE34 HH28 (wt0 rfl) (x_len Tryz.underlying78 rfl) rfl rfl fun a_35 HE36 => ?_
  refine pl_x HE36 HH28 (wt0 rfl) (x_neq rfl rfl) rfl rfl fun a_37 HE38 => ?_
  refine pl_x HE38 HH28 (wt0 rfl) (x_move rfl) rfl rfl fun a_39 HE40 => ?_
  by_cases hc26 : ¬ ((splitR 32 y24).length : Int) = 3
  · refine pl_no HE40 (wtF HE40 rfl rfl rfl (bne_t hc26)) rfl rfl fun a_41 HE42 => ?_
    refine pl_no HE42 (wtF HE42 rfl rfl rfl (bne_t hc26)) rfl rfl fun a_43 HE44 => ?_
    refine pl_no HE44 (wtF HE44 rfl rfl rfl (bne_t hc26)) rfl rfl fun a_45 HE46 => ?_
    refine pl_x HE46 HH28 (wt0 rfl) (x_pickT rfl (bne_t hc26) rfl) rfl rfl fun a_47 HE48 => ?_
    refine wpList_nil ?_
    clear a_31 HE32 a_33 HE34 a_35 HE36 a_37 HE38 a_39 HE40 a_41 HE42 a_43 HE44 a_45 HE46
    refine nrm ?_
    refine cndT HE48 rfl rfl ?_
    refine wp_seq ?_
    refine rg ?_
    refine pl_x HE48 HH28 (wt0 rfl) (show XS _ _ _ _ (.agg #[.int .i64 (0), .int .i64 (0), .int .i64 (0), .slice none (0) 0]) from x_build (vs := []) tb_68 rfl (by simp [Value.oneCell'])) rfl rfl fun a_49 HE50 => ?_
    refine pl fun K_51 hK52 => ?_
    refine st_store (vs := [.int .i64 (0), .int .i64 (0), .int .i64 (0), .slice none (0) 0]) 2 HE50 HH28 tv_68 rfl rfl rfl rfl rfl rfl (by simp [Value.oneCell']) (wt0 rfl) fun w' HH53 => hK52 _ _ ?_
    refine pl_x HE50 HH53 (wt0 rfl) (x_assign rfl) rfl rfl fun a_54 HE55 => ?_
    refine wpList_nil ?_
    clear a_47 HE48 HH28 a_49 HE50 hK52 K_51
    refine nrm ?_
    refine wp_ret ?_
    refine (thn_ret ?_)
    refine ret2 HE55 rfl (rv_cell rfl (tv_68.loadN (cs := [.int .i64 (0), .int .i64 (0), .int .i64 (0), .slice none (0) 0]) rfl (c_blkN 2 rfl _ HH53))) (rv_tmp rfl) ?_
    have HH56 := HH53.flatO (E := eMulti) (cs := [.int .i64 (0), .int .i64 (0), .int .i64 (0), .slice none (0) 0]) (x := (0, 0, 0, [])) (fun _ => (oPrN (oI (by exact ⟨by omega, by omega⟩)) (oPrN (oI (by exact ⟨by omega, by omega⟩)) (oPrN (oI (by exact ⟨by omega, by omega⟩)) (oSl (So.nil (Nat.zero_le _)))))))
    have hF : (rdMuI a0) = ((0, 0, 0, []), false) := by
      first | exact rdMuI_3 rfl (by omega) hx0 (by omega) | (rw [rdMuI_eq rfl (by omega) hl0 (by omega) (by omega) hM]; first | (rw [if_pos ⟨by assumption, by assumption⟩]; done) | (exact if_neg (fun hh => ff hh.1 (by assumption))) | (exact if_neg (fun hh => absurd hh.2 (by assumption))))
    exact ⟨_, by first | (rw [hF] <;> rfl) | rfl | (rw [hF]; simp only [Ending.returned.injEq, Value.slice.injEq, true_and, and_true]; first | omega | (simp; done)) | (rw [hF]; simp; omega), by rw [hF]; exact (HH56.o (i := 0) rfl), HH56.below⟩
  · replace hc26 := Classical.not_not.1 hc26
    refine pl_x HE40 HH28 (wtT HE40 rfl rfl rfl (bne_f hc26)) (x_move rfl) rfl rfl fun a_57 HE58 => ?_
    refine pl_x HE58 HH28 (wtT HE58 rfl rfl rfl (bne_f hc26)) (x_len Tryz.underlying78 rfl) rfl rfl fun a_59 HE60 => ?_
    refine pl_x HE60 HH28 (wtT HE60 rfl rfl rfl (bne_f hc26)) (x_gtr rfl rfl) rfl rfl fun a_61 HE62 => ?_
    refine pl_x HE62 HH28 (wt0 rfl) (x_pickF rfl (bne_f hc26) rfl) rfl rfl fun a_63 HE64 => ?_
    refine wpList_nil ?_
    clear a_31 HE32 a_33 HE34 a_35 HE36 a_37 HE38 a_39 HE40 a_57 HE58 a_59 HE60 a_61 HE62
    refine nrm ?_
    refine cnd_d HE64 rfl (fun hc27 => ?_) (fun hc27 => ?_)
    · refine wp_seq ?_
      refine rg ?_
      refine pl_x HE64 HH28 (wt0 rfl) (show XS _ _ _ _ (.agg #[.int .i64 (0), .int .i64 (0), .int .i64 (0), .slice none (0) 0]) from x_build (vs := []) tb_68 rfl (by simp [Value.oneCell'])) rfl rfl fun a_65 HE66 => ?_
      refine pl fun K_67 hK68 => ?_
      refine st_store (vs := [.int .i64 (0), .int .i64 (0), .int .i64 (0), .slice none (0) 0]) 2 HE66 HH28 tv_68 rfl rfl rfl rfl rfl rfl (by simp [Value.oneCell']) (wt0 rfl) fun w' HH69 => hK68 _ _ ?_
      refine pl_x HE66 HH69 (wt0 rfl) (x_assign rfl) rfl rfl fun a_70 HE71 => ?_
      refine wpList_nil ?_
      clear a_63 HE64 HH28 a_65 HE66 hK68 K_67
      refine nrm ?_
      refine wp_ret ?_
      refine (thn_ret ?_)
      refine ret2 HE71 rfl (rv_cell rfl (tv_68.loadN (cs := [.int .i64 (0), .int .i64 (0), .int .i64 (0), .slice none (0) 0]) rfl (c_blkN 2 rfl _ HH69))) (rv_tmp rfl) ?_
      have HH72 := HH69.flatO (E := eMulti) (cs := [.int .i64 (0), .int .i64 (0), .int .i64 (0), .slice none (0) 0]) (x := (0, 0, 0, [])) (fun _ => (oPrN (oI (by exact ⟨by omega, by omega⟩)) (oPrN (oI (by exact ⟨by omega, by omega⟩)) (oPrN (oI (by exact ⟨by omega, by omega⟩)) (oSl (So.nil (Nat.zero_le _)))))))
      have hF : (rdMuI a0) = ((0, 0, 0, []), false) := by
        first | exact rdMuI_3 rfl (by omega) hx0 (by omega) | (rw [rdMuI_eq rfl (by omega) hl0 (by omega) (by omega) hM]; first | (rw [if_pos ⟨by assumption, by assumption⟩]; done) | (exact if_neg (fun hh => ff hh.1 (by assumption))) | (exact if_neg (fun hh => absurd hh.2 (by assumption))))
      exact ⟨_, by first | (rw [hF] <;> rfl) | rfl | (rw [hF]; simp only [Ending.returned.injEq, Value.slice.injEq, true_and, and_true]; first | omega | (simp; done)) | (rw [hF]; simp; omega), by rw [hF]; exact (HH72.o (i := 0) rfl), HH72.below⟩
    · refine wp_skip ?_
      refine nrm ?_
      refine wp_seq ?_
      refine rg ?_
      refine pl_x HE64 HH28 (wt0 rfl) (show XS _ _ _ _ (.agg #[.int .i64 (0), .int .i64 (0), .int .i64 (0), .slice none (0) 0]) from x_build (vs := []) tb_68 rfl (by simp [Value.oneCell'])) rfl rfl fun a_73 HE74 => ?_
      refine pl fun K_75 hK76 => ?_
      refine st_alloc HE74 HH28 tv_68 (wt0 rfl) rfl fun q28 a_77 w' HE78 HH79 => hK76 _ _ ?_
      refine pl fun K_80 hK81 => ?_
      refine st_store (vs := [.int .i64 (0), .int .i64 (0), .int .i64 (0), .slice none (0) 0]) 0 HE78 HH79 tv_68 rfl rfl rfl rfl rfl rfl (by simp [Value.oneCell']) (wt0 rfl) fun w' HH82 => hK81 _ _ ?_
      refine wpList_nil ?_
      clear a_63 HE64 a_73 HE74 HH28 K_75 hK76 HH79 hK81 K_80
      refine nrm ?_
      refine wp_seq ?_
      refine rg ?_
      refine pl_x HE78 HH82 (wt0 rfl) (x_move rfl) rfl rfl fun a_83 HE84 => ?_
      have ke29 : 0 < (splitR 32 y24).length := by omega
      obtain ⟨be29, fe29, rfl⟩ := el_own HH82 (i := 1) rfl ke29
      refine pl_x HE84 HH82 (wt0 rfl) (x_indexAddr ts_78 rfl rfl rfl rfl ke29) rfl rfl fun a_85 HE86 => ?_
      obtain ⟨y30, xy30⟩ : ∃ y_, y_ = (splitR 32 y24)[0]'(by first | exact ke29 | (simp only [List.length_set]; exact ke29) | omega | (simp only [List.length_set]; omega) | (simp; omega)) := ⟨_, rfl⟩
      have jy30 : List.length y30 ≤ 9223372036854775807 := by rw [xy30]; exact i_ownS HH82 1 rfl _
      have hz0 := xy30
      have hpy30 := splitR_piece 32 _ y30 (by rw [xy30]; exact List.getElem_mem _)
      refine pl_x HE86 HH82 (wt0 rfl) (x_load1 tv_9 rfl (c_ownS 1 rfl (by first | exact ke29 | (simp only [List.length_set]; exact ke29) | omega | (simp only [List.length_set]; omega) | (simp; omega)) xy30.symm)) rfl rfl fun a_87 HE88 => ?_
      refine pl fun K_89 hK90 => ?_
      refine st_call HE88 (wt0 rfl) rfl rfl rfl en_70 rfl rfl (impl_ReadDecimal y30 _ (HH82.glob2 hG) (by omega)) fun e w' hr => ?_
      have hAr31_0 := numR_bd y30
      obtain ⟨rfl, hbr31⟩ := hr
      have HH91 := HH82.on hbr31
      refine ⟨_, rfl, fun a_92 HE93 => hK90 _ _ ?_⟩
      refine pl_x HE93 HH91 (wt0 rfl) (x_move rfl) rfl rfl fun a_94 HE95 => ?_
      refine pl_x HE95 HH91 (wt0 rfl) (x_extract rfl rfl) rfl rfl fun a_96 HE97 => ?_
      refine pl_x HE97 HH91 (wt0 rfl) (x_extract rfl rfl) rfl rfl fun a_98 HE99 => ?_
      refine pl_x HE99 HH91 (wt0 rfl) (x_fieldAddr fa_68_0 rfl) rfl rfl fun a_100 HE101 => ?_
      refine pl fun K_102 hK103 => ?_
      refine st_store (vs := [.int .i64 ((numR y30).1)]) 0 HE101 HH91 tv_2 rfl rfl rfl rfl rfl rfl (by simp [Value.oneCell']) (wt0 rfl) fun w' HH104 => hK103 _ _ ?_
      refine wpList_nil ?_
      clear a_77 HE78 a_83 HE84 a_85 HE86 HH82 a_87 HE88 a_92 HE93 a_94 HE95 a_96 HE97 a_98 HE99 K_89 hK90 HH91 hK103 K_102
      refine nrm ?_
      refine wp_seq ?_
      refine rg ?_
      refine pl_x HE101 HH104 (wt0 rfl) (x_move rfl) rfl rfl fun a_105 HE106 => ?_
      have ke32 : 1 < (splitR 32 y24).length := by omega
      refine pl_x HE106 HH104 (wt0 rfl) (x_indexAddr ts_78 rfl rfl rfl rfl ke32) rfl rfl fun a_107 HE108 => ?_
      obtain ⟨y33, xy33⟩ : ∃ y_, y_ = (splitR 32 y24)[1]'(by first | exact ke32 | (simp only [List.length_set]; exact ke32) | omega | (simp only [List.length_set]; omega) | (simp; omega)) := ⟨_, rfl⟩
      have jy33 : List.length y33 ≤ 9223372036854775807 := by rw [xy33]; exact i_ownS HH104 1 rfl _
      have hz1 := xy33
      have hpy33 := splitR_piece 32 _ y33 (by rw [xy33]; exact List.getElem_mem _)
      refine pl_x HE108 HH104 (wt0 rfl) (x_load1 tv_9 rfl (c_ownS 1 rfl (by first | exact ke32 | (simp only [List.length_set]; exact ke32) | omega | (simp only [List.length_set]; omega) | (simp; omega)) xy33.symm)) rfl rfl fun a_109 HE110 => ?_
      refine pl fun K_111 hK112 => ?_
      refine st_call HE110 (wt0 rfl) rfl rfl rfl en_70 rfl rfl (impl_ReadDecimal y33 _ (HH104.glob2 hG) (by omega)) fun e w' hr => ?_
      have hAr34_0 := numR_bd y33
      obtain ⟨rfl, hbr34⟩ := hr
      have HH113 := HH104.on hbr34
      refine ⟨_, rfl, fun a_114 HE115 => hK112 _ _ ?_⟩
      refine pl_x HE115 HH113 (wt0 rfl) (x_move rfl) rfl rfl fun a_116 HE117 => ?_
      refine pl_x HE117 HH113 (wt0 rfl) (x_extract rfl rfl) rfl rfl fun a_118 HE119 => ?_
      refine pl_x HE119 HH113 (wt0 rfl) (x_extract rfl rfl) rfl rfl fun a_120 HE121 => ?_
      refine pl_x HE121 HH113 (wt0 rfl) (x_fieldAddr fa_68_1 rfl) rfl rfl fun a_122 HE123 => ?_
      refine pl fun K_124 hK125 => ?_
      refine st_store (vs := [.int .i64 ((numR y33).1)]) 0 HE123 HH113 tv_2 rfl rfl rfl rfl rfl rfl (by simp [Value.oneCell']) (wt0 rfl) fun w' HH126 => hK125 _ _ ?_
      refine wpList_nil ?_
      clear a_100 HE101 a_105 HE106 a_107 HE108 HH104 a_109 HE110 a_114 HE115 a_116 HE117 a_118 HE119 a_120 HE121 K_111 hK112 HH113 hK125 K_124
      refine nrm ?_
      refine wp_seq ?_
      refine rg ?_
      refine pl_x HE123 HH126 (wt0 rfl) (x_move rfl) rfl rfl fun a_127 HE128 => ?_
      have ke35 : 2 < (splitR 32 y24).length := by omega
      refine pl_x HE128 HH126 (wt0 rfl) (x_indexAddr ts_78 rfl rfl rfl rfl ke35) rfl rfl fun a_129 HE130 => ?_
      obtain ⟨y36, xy36⟩ : ∃ y_, y_ = (splitR 32 y24)[2]'(by first | exact ke35 | (simp only [List.length_set]; exact ke35) | omega | (simp only [List.length_set]; omega) | (simp; omega)) := ⟨_, rfl⟩
      have jy36 : List.length y36 ≤ 9223372036854775807 := by rw [xy36]; exact i_ownS HH126 1 rfl _
      have hz2 := xy36
      have hpy36 := splitR_piece 32 _ y36 (by rw [xy36]; exact List.getElem_mem _)
      refine pl_x HE130 HH126 (wt0 rfl) (x_load1 tv_9 rfl (c_ownS 1 rfl (by first | exact ke35 | (simp only [List.length_set]; exact ke35) | omega | (simp only [List.length_set]; omega) | (simp; omega)) xy36.symm)) rfl rfl fun a_131 HE132 => ?_
      refine pl fun K_133 hK134 => ?_
      refine st_call HE132 (wt0 rfl) rfl rfl rfl en_70 rfl rfl (impl_ReadDecimal y36 _ (HH126.glob2 hG) (by omega)) fun e w' hr => ?_
      have hAr37_0 := numR_bd y36
      obtain ⟨rfl, hbr37⟩ := hr
      have HH135 := HH126.on hbr37
      refine ⟨_, rfl, fun a_136 HE137 => hK134 _ _ ?_⟩
      refine pl_x HE137 HH135 (wt0 rfl) (x_move rfl) rfl rfl fun a_138 HE139 => ?_
      refine pl_x HE139 HH135 (wt0 rfl) (x_extract rfl rfl) rfl rfl fun a_140 HE141 => ?_
      refine pl_x HE141 HH135 (wt0 rfl) (x_extract rfl rfl) rfl rfl fun a_142 HE143 => ?_
      refine pl_x HE143 HH135 (wt0 rfl) (x_fieldAddr fa_68_2 rfl) rfl rfl fun a_144 HE145 => ?_
      refine pl fun K_146 hK147 => ?_
      refine st_store (vs := [.int .i64 ((numR y36).1)]) 0 HE145 HH135 tv_2 rfl rfl rfl rfl rfl rfl (by simp [Value.oneCell']) (wt0 rfl) fun w' HH148 => hK147 _ _ ?_
      refine wpList_nil ?_
      clear a_122 HE123 a_127 HE128 a_129 HE130 HH126 a_131 HE132 a_136 HE137 a_138 HE139 a_140 HE141 a_142 HE143 K_133 hK134 HH135 hK147 K_146
      refine nrm ?_
      refine wp_seq ?_
      refine wp_seq ?_
      refine rg ?_
      refine pl_x HE145 HH148 (wt0 rfl) (x_move rfl) rfl rfl fun a_149 HE150 => ?_
      have cap38 := (HH148.sl (i := 2) rfl).1
      refine pl_x HE150 HH148 (wt0 rfl) (x_sliceL (k := 1) ts_78 rfl rfl rfl (by omega) List.length_drop.symm) rfl rfl fun a_151 HE152 => ?_
      refine pl_x HE152 HH148 (wt0 rfl) (x_len Tryz.underlying78 rfl) rfl rfl fun a_153 HE154 => ?_
      refine pl_x HE154 HH148 (wt0 rfl) (x_move rfl) rfl rfl fun a_155 HE156 => ?_
      refine wpList_nil ?_
      clear a_144 HE145 a_149 HE150 a_151 HE152 a_153 HE154
      refine nrm ?_
      refine wp_block ?_
      have HH157 := HH148.sel [2, 0, 1, 3] (by decide) rfl
      have HH158 := HH157.turn (rSo eTxt Sr22 (cutA (some ⟨be23, fe23, none⟩) cr22_0 1 1) (cr22_0 - 1) ((splitR 10 a0).drop 1)) (fun h => oSl ((so_of_o h).cutD 1)) (fun _ h => h)
      generalize hA39 : (cutA (some ⟨be23, fe23, none⟩) cr22_0 1 1) = A39 at HE156 HH158
      obtain ⟨hm0, hm1, hm2⟩ := muI_head rfl (by omega) hx0 rfl (by omega) hz0 hz1 hz2
      have hl0 := hx0
      have hld : List.length ((splitR 10 a0).drop 1) = List.length (splitR 10 a0) - 1 := List.length_drop
      have HH159 := HH158.vecNil eMultiRule 123
      refine lp (fun m a w' => ∃ (k : Nat) (A_6_3 : Option Addr) (c_6_3 : Nat) (S_6_3 : Nat → Prop), m = List.length ((splitR 10 a0).drop 1) - k ∧ Env 75 [(52, .int .i64 (k : Int)), (0, .string (bs a0)), (2, .pointer (some ⟨q21, 0, none⟩)), (6, .pointer (some ⟨q28, 0, none⟩)), (50, .slice A39 (((splitR 10 a0).drop 1).length) (cr22_0 - 1)), (51, .int .i64 ((((splitR 10 a0).drop 1).length : Int)))] a ∧ Held Nob w [rVec eMultiRule 123 S_6_3 A_6_3 c_6_3 ((((splitR 10 a0).drop 1).take k).map readMR), rBlk q28 68 [.int .i64 (muI a0).1, .int .i64 (muI a0).2.1, .int .i64 (muI a0).2.2.1, .slice A_6_3 (List.length ((((splitR 10 a0).drop 1).take k).map readMR)) c_6_3], rSo eTxt Sr22 A39 (cr22_0 - 1) ((splitR 10 a0).drop 1), rSo eTxt Sr25 (some ⟨be29, fe29, none⟩) cr25_0 (splitR 32 y24), rBlk q21 68 [.int .i64 (0), .int .i64 (0), .int .i64 (0), .slice none (0) 0]] w' ∧ (k ≤ List.length ((splitR 10 a0).drop 1))) (List.length ((splitR 10 a0).drop 1) - (0)) ?_ ?_
      · have E40 : ((((splitR 10 a0).drop 1).take 0).map readMR) = [] := by
          simp
        have E41 : (muI a0).1 = (numR y30).1 := by exact hm0
        have E42 : (muI a0).2.1 = (numR y33).1 := by exact hm1
        have E43 : (muI a0).2.2.1 = (numR y36).1 := by exact hm2
        exact ⟨0, none, 0, Nob, rfl, HE156.sub ⟨(lkI rfl (by first | rfl | omega | (simp [xy24, hc26, hc27, xy30, xy33, xy36]; done))), rfl, rfl, rfl, rfl, rfl, trivial⟩, ((HH159.sel [0, 2, 1, 3, 4] (by decide) rfl).to (by first | rfl | (rw [E40, E41, E42, E43]; done) | (rw [E40, E41, E42, E43]; rfl) | (simp only [E40, E41, E42, E43]; done) | (simp only [E40, E41, E42, E43]; rfl) | (rw [E40, E41, E42, E43]; simp only [List.length_set]; done))), (by first | omega | assumption | (simp; done) | simp_all)⟩
      · rintro m a_160 w' ⟨k, A_6_3, c_6_3, S_6_3, rfl, HE161, HH162, p44_0⟩
        have hn0 : ((((splitR 10 a0).drop 1).take k).map readMR).length ≤ 61 := by rw [List.length_map, List.length_take]; omega
        refine wp_seq ?_
        refine rg ?_
        refine pl_x HE161 HH162 (wt0 rfl) (x_lss rfl rfl) rfl rfl fun a_163 HE164 => ?_
        refine wpList_nil ?_
        clear HH148 HH157 HH158 a_155 HE156 HH159 a_160 HE161
        refine nrm ?_
        refine wp_seq ?_
        refine cnd_d HE164 rfl (fun hc45 => ?_) (fun hc45 => ?_)
        · refine wp_skip ?_
          refine nrm ?_
          refine wp_seq ?_
          refine wp_block ?_
          refine wp_seq ?_
          refine rg ?_
          have ke46 : k < ((splitR 10 a0).drop 1).length := by omega
          obtain ⟨be46, fe46, rfl⟩ := el_own HH162 (i := 2) rfl ke46
          refine pl_x HE164 HH162 (wt0 rfl) (x_indexAddr ts_78 rfl rfl rfl rfl ke46) rfl rfl fun a_165 HE166 => ?_
          obtain ⟨y47, xy47⟩ : ∃ y_, y_ = ((splitR 10 a0).drop 1)[k]'(by first | exact ke46 | (simp only [List.length_set]; exact ke46) | omega | (simp only [List.length_set]; omega) | (simp; omega)) := ⟨_, rfl⟩
          have jy47 : List.length y47 ≤ 9223372036854775807 := by rw [xy47]; exact i_ownS HH162 2 rfl _
          have hw0 := xy47
          have hpy47 := splitR_piece 10 a0 y47 (by rw [xy47]; exact List.mem_of_mem_drop (List.getElem_mem _))
          refine pl_x HE166 HH162 (wt0 rfl) (x_load1 tv_9 rfl (c_ownS 2 rfl (by first | exact ke46 | (simp only [List.length_set]; exact ke46) | omega | (simp only [List.length_set]; omega) | (simp; omega)) xy47.symm)) rfl rfl fun a_167 HE168 => ?_
          refine pl_x HE168 HH162 (wt0 rfl) (x_assign rfl) rfl rfl fun a_169 HE170 => ?_
          refine wpList_nil ?_
          clear a_163 HE164 a_165 HE166 a_167 HE168
          refine nrm ?_
          refine dr_start (Held Nob w [rSo eTxt Sr22 (some ⟨be46, fe46, none⟩) (cr22_0 - 1) ((splitR 10 a0).drop 1), rSo eTxt Sr25 (some ⟨be29, fe29, none⟩) cr25_0 (splitR 32 y24), rBlk q21 68 [.int .i64 (0), .int .i64 (0), .int .i64 (0), .slice none (0) 0]]) 8 #[false, false, false, false, false, false, false, false] hmix rfl rfl HH162 (fun _ h => h.sel [2, 3, 4] (by decide) rfl) fun w' HH171 => ?_
          have HS172 := HH171.sel [2, 3, 4] (by decide) rfl
          refine dr_take (i := 0) (ls' := #[true, false, false, false, false, false, false, false]) HE170 HS172 rfl (by kernel_rfl) (by kernel_rfl) (by kernel_rfl) (fun _ _ _ h => h) rfl (wt0 rfl) (x_fieldAddr fa_68_3 rfl) rfl rfl fun a_173 HE174 => ?_
          refine dr_take (i := 2) (ls' := #[true, false, true, false, false, false, false, false]) HE174 HS172 rfl (by kernel_rfl) (by kernel_rfl) (by kernel_rfl) (fun _ _ _ h => h) rfl (wt0 rfl) (x_move rfl) rfl rfl fun a_175 HE176 => ?_
          refine dr_two (i := 1) (j := 3) (ls' := #[true, true, true, false, false, false, false, false]) (ls'' := #[true, false, true, true, false, false, false, false]) rfl rfl (by kernel_rfl) rfl rfl (fun K_177 hK178 => ?_) (fun K_177 hK178 => ?_)
          · refine st_x HE176 HH171 (wt0 rfl) (x_load1 tv_66 rfl (c_blk 1 rfl rfl)) rfl rfl fun a_179 HE180 => hK178 _ _ HS172 ?_
            refine dr_one (i := 3) (ls' := #[true, true, true, true, false, false, false, false]) rfl (by kernel_rfl) rfl fun K_181 hK182 => ?_
            refine st_call HE180 (wt0 rfl) rfl rfl rfl en_97 rfl rfl (impl_readMultiRule y47 _ (HH171.glob2 hG) (by omega)) fun e w' hr => ?_
            obtain ⟨esr48_0, rfl, hor48_0, hbr48⟩ := hr
            have hr := eMultiRule.read hor48_0
            obtain ⟨Sr48, HH183⟩ := HH171.newO hbr48 hor48_0
            obtain ⟨Ar48_0_1, cr48_0_1, Ar48_0_2, cr48_0_2, Ar48_0_3, cr48_0_3, rfl, gr48_0_0, gr48_0_1, gr48_0_2, gr48_0_3, gr48_0_4⟩ := shape_MultiRule hr
            have jr48_0_0 := gr48_0_0; unfold I64 at jr48_0_0
            have jr48_0_4 := gr48_0_4; unfold I64 at jr48_0_4
            have HH184 := HH183.unF rfl
            obtain ⟨S49, S50, HH185⟩ := HH184.unP rfl
            have HH186 := HH185.sel [1, 0, 2, 3, 4, 5, 6] (by decide) rfl
            obtain ⟨S51, S52, HH187⟩ := HH186.unP rfl
            have HH188 := HH187.sel [1, 0, 2, 3, 4, 5, 6, 7] (by decide) rfl
            obtain ⟨S53, S54, HH189⟩ := HH188.unP rfl
            have HH190 := HH189.sel [1, 0, 2, 3, 4, 5, 6, 7, 8] (by decide) rfl
            have HH191 := HH190.sel [1, 2, 3, 4, 5, 6, 7, 8] (by decide) rfl
            refine ⟨_, rfl, fun a_192 HE193 => hK182 _ _ (by exact HH191.sel [5, 6, 7] (by decide) rfl) ?_⟩
            have HS194 := HH191.sel [5, 6, 7] (by decide) rfl
            refine dr_one (i := 4) (ls' := #[true, true, true, true, true, false, false, false]) rfl (by kernel_rfl) rfl fun K_195 hK196 => ?_
            refine st_lit (m := 1) (cs := [.int .i64 ((readMR y47).1), .slice Ar48_0_1 ((readMR y47).2.1.length) cr48_0_1, .slice Ar48_0_2 ((readMR y47).2.2.1.length) cr48_0_2, .slice Ar48_0_3 ((readMR y47).2.2.2.1.length) cr48_0_3, .int .i64 ((readMR y47).2.2.2.2)]) (e := 123) HE193 HH191 (run_lit ts_66 HE193 (vs := [.agg #[.int .i64 ((readMR y47).1), .slice Ar48_0_1 ((readMR y47).2.1.length) cr48_0_1, .slice Ar48_0_2 ((readMR y47).2.2.1.length) cr48_0_2, .slice Ar48_0_3 ((readMR y47).2.2.2.1.length) cr48_0_3, .int .i64 ((readMR y47).2.2.2.2)]]) rfl rfl (by simp [Value.cells]) rfl (by decide)) (wt0 rfl) rfl rfl fun q55 a_197 w' HE198 HH199 => hK196 _ _ (by exact HH199.sel [6, 7, 8] (by decide) rfl) ?_
            have HS200 := HH199.sel [6, 7, 8] (by decide) rfl
            refine dr_one (i := 5) (ls' := #[true, true, true, true, true, true, false, false]) rfl (by kernel_rfl) rfl fun K_201 hK202 => ?_
            have HH203 := HH199.sel [3, 2, 1, 0, 4, 5, 6, 7, 8] (by decide) rfl
            have HH204 := HH203.sel [2, 0, 1, 3, 4, 5, 6, 7, 8] (by decide) rfl
            have HH205 := HH204.pairB (F := eInt) (c2 := [.int .i64 ((readMR y47).2.2.2.2)]) (y := (readMR y47).2.2.2.2) (oI (by exact ⟨by omega, by omega⟩))
            have HH206 := HH205.sel [2, 0, 1, 3, 4, 5, 6, 7, 8] (by decide) rfl
            have HH207 := HH206.pair
            have HH208 := HH207.sel [1, 0, 2, 3, 4, 5, 6, 7] (by decide) rfl
            have HH209 := HH208.pair
            have HH210 := HH209.pairF (E := eInt) (c1 := [.int .i64 ((readMR y47).1)]) (x := (readMR y47).1) (oI (by exact ⟨by omega, by omega⟩))
            obtain ⟨S59, HH211⟩ : ∃ S, Held Nob w (rO eMultiRule S [.int .i64 ((readMR y47).1), .slice Ar48_0_1 ((readMR y47).2.1.length) cr48_0_1, .slice Ar48_0_2 ((readMR y47).2.2.1.length) cr48_0_2, .slice Ar48_0_3 ((readMR y47).2.2.2.1.length) cr48_0_3, .int .i64 ((readMR y47).2.2.2.2)] (readMR y47) :: _) _ := ⟨_, HH210⟩
            refine st_app1 HE198 HH211 ts_66 [2, 0, 1, 3, 4, 5, 6] (by decide) rfl rfl rfl (by simp [Value.oneCell']) (by unfold maxLen; first | omega | (simp; done) | (simp; omega)) (by first | omega | (simp; done) | (simp; omega)) (wt0 rfl) rfl fun A56 c57 S58 a_212 w' HE213 HH214 => hK202 _ _ (by exact HH214.sel [3, 4, 5] (by decide) rfl) ?_
            have HS215 := HH214.sel [3, 4, 5] (by decide) rfl
            refine dr_take (i := 6) (ls' := #[true, true, true, true, true, true, true, false]) HE213 HS215 rfl (by kernel_rfl) (by kernel_rfl) (by kernel_rfl) (fun _ _ _ h => h) rfl (wt0 rfl) (x_fieldAddr fa_68_3 rfl) rfl rfl fun a_216 HE217 => ?_
            refine dr_one (i := 7) (ls' := #[true, true, true, true, true, true, true, true]) rfl (by kernel_rfl) rfl fun K_218 hK219 => ?_
            refine st_store (vs := [.slice A56 ((((((splitR 10 a0).drop 1).take k).map readMR) ++ [(readMR y47)]).length) c57]) 2 HE217 HH214 tv_66 rfl rfl rfl rfl rfl rfl (by simp [Value.oneCell']) (wt0 rfl) fun w' HH220 => hK219 _ _ (by exact HH220.sel [3, 4, 5] (by decide) rfl) ?_
            have HS221 := HH220.sel [3, 4, 5] (by decide) rfl
            refine dr_done (by kernel_rfl) ?_
            clear HH162 a_169 HE170 a_173 HE174 a_175 HE176 K_177 hK178 HH171 HH183 HH184 HH185 HH186 HH187 HH188 HH189 HH190 a_179 HE180 HS172 K_181 hK182 a_192 HE193 HH191 HS194 K_195 hK196 HH199 HH203 HH204 HH205 HH206 HH207 HH208 HH209 HH210 a_197 HE198 HH211 HS200 a_212 HE213 K_201 hK202 HH214 HS215 hK219 K_218
            refine blk_n ?_
            refine nrm ?_
            refine rg ?_
            refine pl_x HE217 HH220 (wt0 rfl) (x_add rfl rfl (by exact ⟨by omega, by omega⟩)) rfl rfl fun a_222 HE223 => ?_
            refine pl_x HE223 HH220 (wt0 rfl) (x_move rfl) rfl rfl fun a_224 HE225 => ?_
            refine wpList_nil ?_
            clear a_216 HE217 a_222 HE223
            have E60 : ((((splitR 10 a0).drop 1).take (k + 1)).map readMR) = (((((splitR 10 a0).drop 1).take k).map readMR) ++ [(readMR y47)]) := by
              exact maps_snoc (by omega) hw0
            exact nrm ⟨List.length ((splitR 10 a0).drop 1) - (k + 1), (by omega), k + 1, A56, c57, S58, rfl, HE225.sub ⟨(lkI rfl (by first | rfl | omega | (simp [xy24, hc26, hc27, xy30, xy33, xy36, p44_0, hc45, xy47]; done))), rfl, rfl, rfl, rfl, rfl, trivial⟩, ((HH220.sel [0, 2, 3, 4, 5] (by decide) rfl).to (by first | rfl | (rw [E60]; done) | (rw [E60]; rfl) | (simp only [E60]; done) | (simp only [E60]; rfl) | (rw [E60]; simp only [List.length_set]; done))), (by first | omega | assumption | (simp; done) | simp_all)⟩
          · refine st_call HE176 (wt0 rfl) rfl rfl rfl en_97 rfl rfl (impl_readMultiRule y47 _ (HH171.glob2 hG) (by omega)) fun e w' hr => ?_
            obtain ⟨esr61_0, rfl, hor61_0, hbr61⟩ := hr
            have hr := eMultiRule.read hor61_0
            obtain ⟨Sr61, HH226⟩ := HH171.newO hbr61 hor61_0
            obtain ⟨Ar61_0_1, cr61_0_1, Ar61_0_2, cr61_0_2, Ar61_0_3, cr61_0_3, rfl, gr61_0_0, gr61_0_1, gr61_0_2, gr61_0_3, gr61_0_4⟩ := shape_MultiRule hr
            have jr61_0_0 := gr61_0_0; unfold I64 at jr61_0_0
            have jr61_0_4 := gr61_0_4; unfold I64 at jr61_0_4
            have HH227 := HH226.unF rfl
            obtain ⟨S62, S63, HH228⟩ := HH227.unP rfl
            have HH229 := HH228.sel [1, 0, 2, 3, 4, 5, 6] (by decide) rfl
            obtain ⟨S64, S65, HH230⟩ := HH229.unP rfl
            have HH231 := HH230.sel [1, 0, 2, 3, 4, 5, 6, 7] (by decide) rfl
            obtain ⟨S66, S67, HH232⟩ := HH231.unP rfl
            have HH233 := HH232.sel [1, 0, 2, 3, 4, 5, 6, 7, 8] (by decide) rfl
            have HH234 := HH233.sel [1, 2, 3, 4, 5, 6, 7, 8] (by decide) rfl
            refine ⟨_, rfl, fun a_235 HE236 => hK178 _ _ (by exact HH234.sel [5, 6, 7] (by decide) rfl) ?_⟩
            have HS237 := HH234.sel [5, 6, 7] (by decide) rfl
            refine dr_two (i := 1) (j := 4) (ls' := #[true, true, true, true, false, false, false, false]) (ls'' := #[true, false, true, true, true, false, false, false]) rfl rfl (by kernel_rfl) rfl rfl (fun K_238 hK239 => ?_) (fun K_238 hK239 => ?_)
            · refine st_x HE236 HH234 (wt0 rfl) (x_load1 tv_66 rfl (c_blk 4 rfl rfl)) rfl rfl fun a_240 HE241 => hK239 _ _ HS237 ?_
              refine dr_one (i := 4) (ls' := #[true, true, true, true, true, false, false, false]) rfl (by kernel_rfl) rfl fun K_242 hK243 => ?_
              refine st_lit (m := 1) (cs := [.int .i64 ((readMR y47).1), .slice Ar61_0_1 ((readMR y47).2.1.length) cr61_0_1, .slice Ar61_0_2 ((readMR y47).2.2.1.length) cr61_0_2, .slice Ar61_0_3 ((readMR y47).2.2.2.1.length) cr61_0_3, .int .i64 ((readMR y47).2.2.2.2)]) (e := 123) HE241 HH234 (run_lit ts_66 HE241 (vs := [.agg #[.int .i64 ((readMR y47).1), .slice Ar61_0_1 ((readMR y47).2.1.length) cr61_0_1, .slice Ar61_0_2 ((readMR y47).2.2.1.length) cr61_0_2, .slice Ar61_0_3 ((readMR y47).2.2.2.1.length) cr61_0_3, .int .i64 ((readMR y47).2.2.2.2)]]) rfl rfl (by simp [Value.cells]) rfl (by decide)) (wt0 rfl) rfl rfl fun q68 a_244 w' HE245 HH246 => hK243 _ _ (by exact HH246.sel [6, 7, 8] (by decide) rfl) ?_
              have HS247 := HH246.sel [6, 7, 8] (by decide) rfl
              refine dr_one (i := 5) (ls' := #[true, true, true, true, true, true, false, false]) rfl (by kernel_rfl) rfl fun K_248 hK249 => ?_
              have HH250 := HH246.sel [3, 2, 1, 0, 4, 5, 6, 7, 8] (by decide) rfl
              have HH251 := HH250.sel [2, 0, 1, 3, 4, 5, 6, 7, 8] (by decide) rfl
              have HH252 := HH251.pairB (F := eInt) (c2 := [.int .i64 ((readMR y47).2.2.2.2)]) (y := (readMR y47).2.2.2.2) (oI (by exact ⟨by omega, by omega⟩))
              have HH253 := HH252.sel [2, 0, 1, 3, 4, 5, 6, 7, 8] (by decide) rfl
              have HH254 := HH253.pair
              have HH255 := HH254.sel [1, 0, 2, 3, 4, 5, 6, 7] (by decide) rfl
              have HH256 := HH255.pair
              have HH257 := HH256.pairF (E := eInt) (c1 := [.int .i64 ((readMR y47).1)]) (x := (readMR y47).1) (oI (by exact ⟨by omega, by omega⟩))
              obtain ⟨S72, HH258⟩ : ∃ S, Held Nob w (rO eMultiRule S [.int .i64 ((readMR y47).1), .slice Ar61_0_1 ((readMR y47).2.1.length) cr61_0_1, .slice Ar61_0_2 ((readMR y47).2.2.1.length) cr61_0_2, .slice Ar61_0_3 ((readMR y47).2.2.2.1.length) cr61_0_3, .int .i64 ((readMR y47).2.2.2.2)] (readMR y47) :: _) _ := ⟨_, HH257⟩
              refine st_app1 HE245 HH258 ts_66 [2, 0, 1, 3, 4, 5, 6] (by decide) rfl rfl rfl (by simp [Value.oneCell']) (by unfold maxLen; first | omega | (simp; done) | (simp; omega)) (by first | omega | (simp; done) | (simp; omega)) (wt0 rfl) rfl fun A69 c70 S71 a_259 w' HE260 HH261 => hK249 _ _ (by exact HH261.sel [3, 4, 5] (by decide) rfl) ?_
              have HS262 := HH261.sel [3, 4, 5] (by decide) rfl
              refine dr_take (i := 6) (ls' := #[true, true, true, true, true, true, true, false]) HE260 HS262 rfl (by kernel_rfl) (by kernel_rfl) (by kernel_rfl) (fun _ _ _ h => h) rfl (wt0 rfl) (x_fieldAddr fa_68_3 rfl) rfl rfl fun a_263 HE264 => ?_
              refine dr_one (i := 7) (ls' := #[true, true, true, true, true, true, true, true]) rfl (by kernel_rfl) rfl fun K_265 hK266 => ?_
              refine st_store (vs := [.slice A69 ((((((splitR 10 a0).drop 1).take k).map readMR) ++ [(readMR y47)]).length) c70]) 2 HE264 HH261 tv_66 rfl rfl rfl rfl rfl rfl (by simp [Value.oneCell']) (wt0 rfl) fun w' HH267 => hK266 _ _ (by exact HH267.sel [3, 4, 5] (by decide) rfl) ?_
              have HS268 := HH267.sel [3, 4, 5] (by decide) rfl
              refine dr_done (by kernel_rfl) ?_
              clear HH162 a_169 HE170 a_173 HE174 HH171 HH226 HH227 HH228 HH229 HH230 HH231 HH232 HH233 a_175 HE176 HS172 K_177 hK178 a_235 HE236 K_238 hK239 a_240 HE241 HH234 HS237 K_242 hK243 HH246 HH250 HH251 HH252 HH253 HH254 HH255 HH256 HH257 a_244 HE245 HH258 HS247 a_259 HE260 K_248 hK249 HH261 HS262 hK266 K_265
              refine blk_n ?_
              refine nrm ?_
              refine rg ?_
              refine pl_x HE264 HH267 (wt0 rfl) (x_add rfl rfl (by exact ⟨by omega, by omega⟩)) rfl rfl fun a_269 HE270 => ?_
              refine pl_x HE270 HH267 (wt0 rfl) (x_move rfl) rfl rfl fun a_271 HE272 => ?_
              refine wpList_nil ?_
              clear a_263 HE264 a_269 HE270
              have E73 : ((((splitR 10 a0).drop 1).take (k + 1)).map readMR) = (((((splitR 10 a0).drop 1).take k).map readMR) ++ [(readMR y47)]) := by
                exact maps_snoc (by omega) hw0
              exact nrm ⟨List.length ((splitR 10 a0).drop 1) - (k + 1), (by omega), k + 1, A69, c70, S71, rfl, HE272.sub ⟨(lkI rfl (by first | rfl | omega | (simp [xy24, hc26, hc27, xy30, xy33, xy36, p44_0, hc45, xy47]; done))), rfl, rfl, rfl, rfl, rfl, trivial⟩, ((HH267.sel [0, 2, 3, 4, 5] (by decide) rfl).to (by first | rfl | (rw [E73]; done) | (rw [E73]; rfl) | (simp only [E73]; done) | (simp only [E73]; rfl) | (rw [E73]; simp only [List.length_set]; done))), (by first | omega | assumption | (simp; done) | simp_all)⟩
            · refine st_lit (m := 1) (cs := [.int .i64 ((readMR y47).1), .slice Ar61_0_1 ((readMR y47).2.1.length) cr61_0_1, .slice Ar61_0_2 ((readMR y47).2.2.1.length) cr61_0_2, .slice Ar61_0_3 ((readMR y47).2.2.2.1.length) cr61_0_3, .int .i64 ((readMR y47).2.2.2.2)]) (e := 123) HE236 HH234 (run_lit ts_66 HE236 (vs := [.agg #[.int .i64 ((readMR y47).1), .slice Ar61_0_1 ((readMR y47).2.1.length) cr61_0_1, .slice Ar61_0_2 ((readMR y47).2.2.1.length) cr61_0_2, .slice Ar61_0_3 ((readMR y47).2.2.2.1.length) cr61_0_3, .int .i64 ((readMR y47).2.2.2.2)]]) rfl rfl (by simp [Value.cells]) rfl (by decide)) (wt0 rfl) rfl rfl fun q74 a_273 w' HE274 HH275 => hK239 _ _ (by exact HH275.sel [6, 7, 8] (by decide) rfl) ?_
              have HS276 := HH275.sel [6, 7, 8] (by decide) rfl
              refine dr_one (i := 1) (ls' := #[true, true, true, true, true, false, false, false]) rfl (by kernel_rfl) rfl fun K_277 hK278 => ?_
              refine st_x HE274 HH275 (wt0 rfl) (x_load1 tv_66 rfl (c_blk 5 rfl rfl)) rfl rfl fun a_279 HE280 => hK278 _ _ HS276 ?_
              refine dr_one (i := 5) (ls' := #[true, true, true, true, true, true, false, false]) rfl (by kernel_rfl) rfl fun K_281 hK282 => ?_
              have HH283 := HH275.sel [3, 2, 1, 0, 4, 5, 6, 7, 8] (by decide) rfl
              have HH284 := HH283.sel [2, 0, 1, 3, 4, 5, 6, 7, 8] (by decide) rfl
              have HH285 := HH284.pairB (F := eInt) (c2 := [.int .i64 ((readMR y47).2.2.2.2)]) (y := (readMR y47).2.2.2.2) (oI (by exact ⟨by omega, by omega⟩))
              have HH286 := HH285.sel [2, 0, 1, 3, 4, 5, 6, 7, 8] (by decide) rfl
              have HH287 := HH286.pair
              have HH288 := HH287.sel [1, 0, 2, 3, 4, 5, 6, 7] (by decide) rfl
              have HH289 := HH288.pair
              have HH290 := HH289.pairF (E := eInt) (c1 := [.int .i64 ((readMR y47).1)]) (x := (readMR y47).1) (oI (by exact ⟨by omega, by omega⟩))
              obtain ⟨S78, HH291⟩ : ∃ S, Held Nob w (rO eMultiRule S [.int .i64 ((readMR y47).1), .slice Ar61_0_1 ((readMR y47).2.1.length) cr61_0_1, .slice Ar61_0_2 ((readMR y47).2.2.1.length) cr61_0_2, .slice Ar61_0_3 ((readMR y47).2.2.2.1.length) cr61_0_3, .int .i64 ((readMR y47).2.2.2.2)] (readMR y47) :: _) _ := ⟨_, HH290⟩
              refine st_app1 HE280 HH291 ts_66 [2, 0, 1, 3, 4, 5, 6] (by decide) rfl rfl rfl (by simp [Value.oneCell']) (by unfold maxLen; first | omega | (simp; done) | (simp; omega)) (by first | omega | (simp; done) | (simp; omega)) (wt0 rfl) rfl fun A75 c76 S77 a_292 w' HE293 HH294 => hK282 _ _ (by exact HH294.sel [3, 4, 5] (by decide) rfl) ?_
              have HS295 := HH294.sel [3, 4, 5] (by decide) rfl
              refine dr_take (i := 6) (ls' := #[true, true, true, true, true, true, true, false]) HE293 HS295 rfl (by kernel_rfl) (by kernel_rfl) (by kernel_rfl) (fun _ _ _ h => h) rfl (wt0 rfl) (x_fieldAddr fa_68_3 rfl) rfl rfl fun a_296 HE297 => ?_
              refine dr_one (i := 7) (ls' := #[true, true, true, true, true, true, true, true]) rfl (by kernel_rfl) rfl fun K_298 hK299 => ?_
              refine st_store (vs := [.slice A75 ((((((splitR 10 a0).drop 1).take k).map readMR) ++ [(readMR y47)]).length) c76]) 2 HE297 HH294 tv_66 rfl rfl rfl rfl rfl rfl (by simp [Value.oneCell']) (wt0 rfl) fun w' HH300 => hK299 _ _ (by exact HH300.sel [3, 4, 5] (by decide) rfl) ?_
              have HS301 := HH300.sel [3, 4, 5] (by decide) rfl
              refine dr_done (by kernel_rfl) ?_
              clear HH162 a_169 HE170 a_173 HE174 HH171 HH226 HH227 HH228 HH229 HH230 HH231 HH232 HH233 a_175 HE176 HS172 K_177 hK178 a_235 HE236 HH234 HS237 K_238 hK239 a_273 HE274 K_277 hK278 HH275 HH283 HH284 HH285 HH286 HH287 HH288 HH289 HH290 a_279 HE280 HH291 HS276 a_292 HE293 K_281 hK282 HH294 HS295 hK299 K_298
              refine blk_n ?_
              refine nrm ?_
              refine rg ?_
              refine pl_x HE297 HH300 (wt0 rfl) (x_add rfl rfl (by exact ⟨by omega, by omega⟩)) rfl rfl fun a_302 HE303 => ?_
              refine pl_x HE303 HH300 (wt0 rfl) (x_move rfl) rfl rfl fun a_304 HE305 => ?_
              refine wpList_nil ?_
              clear a_296 HE297 a_302 HE303
              have E79 : ((((splitR 10 a0).drop 1).take (k + 1)).map readMR) = (((((splitR 10 a0).drop 1).take k).map readMR) ++ [(readMR y47)]) := by
                exact maps_snoc (by omega) hw0
              exact nrm ⟨List.length ((splitR 10 a0).drop 1) - (k + 1), (by omega), k + 1, A75, c76, S77, rfl, HE305.sub ⟨(lkI rfl (by first | rfl | omega | (simp [xy24, hc26, hc27, xy30, xy33, xy36, p44_0, hc45, xy47]; done))), rfl, rfl, rfl, rfl, rfl, trivial⟩, ((HH300.sel [0, 2, 3, 4, 5] (by decide) rfl).to (by first | rfl | (rw [E79]; done) | (rw [E79]; rfl) | (simp only [E79]; done) | (simp only [E79]; rfl) | (rw [E79]; simp only [List.length_set]; done))), (by first | omega | assumption | (simp; done) | simp_all)⟩
        · have hM := muI_full (s := a0) (k := k) (by omega)
          refine wp_exit ?_
          refine (thn_exit (thn_exit (blk_hit ?_)))
          refine nrm ?_
          refine wp_seq ?_
          refine wp_seq ?_
          refine rg ?_
          refine pl_x HE164 HH162 (wt0 rfl) (x_loadN (cs := [.int .i64 ((muI a0).1), .int .i64 ((muI a0).2.1), .int .i64 ((muI a0).2.2.1), .slice A_6_3 ((List.length ((((splitR 10 a0).drop 1).take k).map readMR))) c_6_3]) tv_68 rfl rfl (c_blkN 1 rfl)) rfl rfl fun a_306 HE307 => ?_
          refine pl fun K_308 hK309 => ?_
          refine st_call HE307 (wt0 rfl) rfl rfl rfl en_98 rfl rfl (impl_ValidMulti [.int .i64 ((muI a0).1), .int .i64 ((muI a0).2.1), .int .i64 ((muI a0).2.2.1), .slice A_6_3 ((List.length ((((splitR 10 a0).drop 1).take k).map readMR))) c_6_3] ((muI a0).1, (muI a0).2.1, (muI a0).2.2.1, ((((splitR 10 a0).drop 1).take k).map readMR)) _ (rep_Multi (x := ((muI a0).1, (muI a0).2.1, (muI a0).2.2.1, ((((splitR 10 a0).drop 1).take k).map readMR))) (by first | exact ⟨by omega, by omega⟩ | (dsimp only; exact ⟨by omega, by omega⟩)) (by first | exact ⟨by omega, by omega⟩ | (dsimp only; exact ⟨by omega, by omega⟩)) (by first | exact ⟨by omega, by omega⟩ | (dsimp only; exact ⟨by omega, by omega⟩)) (HH162.vecSl (i := 0) rfl))) fun e w' hr => ?_
          obtain ⟨rfl, hbr80⟩ := hr
          have HH310 := HH162.on hbr80
          refine ⟨_, rfl, fun a_311 HE312 => hK309 _ _ ?_⟩
          refine pl_x HE312 HH310 (wt0 rfl) (x_not rfl) rfl rfl fun a_313 HE314 => ?_
          refine pl_x HE314 HH310 (wt0 rfl) (x_move rfl) rfl rfl fun a_315 HE316 => ?_
          rcases Bool.eq_false_or_eq_true ((validMulti ((muI a0).1, (muI a0).2.1, (muI a0).2.2.1, ((((splitR 10 a0).drop 1).take k).map readMR)))) with hc81 | hc81
          · refine pl_x HE316 HH310 (wtT HE316 rfl rfl rfl (not_f hc81)) (x_loadN (cs := [.int .i64 ((muI a0).1), .int .i64 ((muI a0).2.1), .int .i64 ((muI a0).2.2.1), .slice A_6_3 ((List.length ((((splitR 10 a0).drop 1).take k).map readMR))) c_6_3]) tv_68 rfl rfl (c_blkN 1 rfl)) rfl rfl fun a_317 HE318 => ?_
            refine pl fun K_319 hK320 => ?_
            refine st_call HE318 (wtT HE318 rfl rfl rfl (not_f hc81)) rfl rfl rfl en_99 rfl rfl (impl_MultiText [.int .i64 ((muI a0).1), .int .i64 ((muI a0).2.1), .int .i64 ((muI a0).2.2.1), .slice A_6_3 ((List.length ((((splitR 10 a0).drop 1).take k).map readMR))) c_6_3] ((muI a0).1, (muI a0).2.1, (muI a0).2.2.1, ((((splitR 10 a0).drop 1).take k).map readMR)) _ (rep_Multi (x := ((muI a0).1, (muI a0).2.1, (muI a0).2.2.1, ((((splitR 10 a0).drop 1).take k).map readMR))) (by first | exact ⟨by omega, by omega⟩ | (dsimp only; exact ⟨by omega, by omega⟩)) (by first | exact ⟨by omega, by omega⟩ | (dsimp only; exact ⟨by omega, by omega⟩)) (by first | exact ⟨by omega, by omega⟩ | (dsimp only; exact ⟨by omega, by omega⟩)) (HH310.vecSl (i := 0) rfl)) (HH310.glob hG.1)) fun e w' hr => ?_
            obtain ⟨rfl, hbr82⟩ := hr
            have HH321 := HH310.on hbr82
            refine ⟨_, rfl, fun a_322 HE323 => hK320 _ _ ?_⟩
            refine pl_x HE323 HH321 (wtT HE323 rfl rfl rfl (not_f hc81)) (x_move rfl) rfl rfl fun a_324 HE325 => ?_
            refine pl_x HE325 HH321 (wtT HE325 rfl rfl rfl (not_f hc81)) (x_sneqB rfl rfl) rfl rfl fun a_326 HE327 => ?_
            refine pl_x HE327 HH321 (wt0 rfl) (x_pickF rfl (not_f hc81) rfl) rfl rfl fun a_328 HE329 => ?_
            refine wpList_nil ?_
            clear a_163 HE164 HH162 a_306 HE307 a_311 HE312 a_313 HE314 a_315 HE316 K_308 hK309 HH310 a_317 HE318 a_322 HE323 a_324 HE325 a_326 HE327 hK320 K_319
            refine nrm ?_
            refine cnd_nd HE329 rfl (fun hc83 => ?_) (fun hc83 => ?_)
            · refine wp_seq ?_
              refine rg ?_
              refine pl_x HE329 HH321 (wt0 rfl) (show XS _ _ _ _ (.agg #[.int .i64 (0), .int .i64 (0), .int .i64 (0), .slice none (0) 0]) from x_build (vs := []) tb_68 rfl (by simp [Value.oneCell'])) rfl rfl fun a_330 HE331 => ?_
              refine pl fun K_332 hK333 => ?_
              refine st_store (vs := [.int .i64 (0), .int .i64 (0), .int .i64 (0), .slice none (0) 0]) 4 HE331 HH321 tv_68 rfl rfl rfl rfl rfl rfl (by simp [Value.oneCell']) (wt0 rfl) fun w' HH334 => hK333 _ _ ?_
              refine pl_x HE331 HH334 (wt0 rfl) (x_assign rfl) rfl rfl fun a_335 HE336 => ?_
              refine wpList_nil ?_
              clear a_328 HE329 HH321 a_330 HE331 hK333 K_332
              refine nrm ?_
              refine wp_ret ?_
              refine (thn_ret ?_)
              refine ret2 HE336 rfl (rv_cell rfl (tv_68.loadN (cs := [.int .i64 (0), .int .i64 (0), .int .i64 (0), .slice none (0) 0]) rfl (c_blkN 4 rfl _ HH334))) (rv_tmp rfl) ?_
              have HH337 := HH334.flatO (E := eMulti) (cs := [.int .i64 (0), .int .i64 (0), .int .i64 (0), .slice none (0) 0]) (x := (0, 0, 0, [])) (fun _ => (oPrN (oI (by exact ⟨by omega, by omega⟩)) (oPrN (oI (by exact ⟨by omega, by omega⟩)) (oPrN (oI (by exact ⟨by omega, by omega⟩)) (oSl (So.nil (Nat.zero_le _)))))))
              have hF : (rdMuI a0) = ((0, 0, 0, []), false) := by
                first | exact rdMuI_3 rfl (by omega) hx0 (by omega) | (rw [rdMuI_eq rfl (by omega) hl0 (by omega) (by omega) hM]; first | (rw [if_pos ⟨by assumption, by assumption⟩]; done) | (exact if_neg (fun hh => ff hh.1 (by assumption))) | (exact if_neg (fun hh => absurd hh.2 (by assumption))))
              exact ⟨_, by first | (rw [hF] <;> rfl) | rfl | (rw [hF]; simp only [Ending.returned.injEq, Value.slice.injEq, true_and, and_true]; first | omega | (simp; done)) | (rw [hF]; simp; omega), by rw [hF]; exact (HH337.o (i := 0) rfl), HH337.below⟩
            · refine wp_skip ?_
              refine nrm ?_
              refine wp_seq ?_
              refine rg ?_
              refine pl_x HE329 HH321 (wt0 rfl) (x_loadN (cs := [.int .i64 ((muI a0).1), .int .i64 ((muI a0).2.1), .int .i64 ((muI a0).2.2.1), .slice A_6_3 ((List.length ((((splitR 10 a0).drop 1).take k).map readMR))) c_6_3]) tv_68 rfl rfl (c_blkN 1 rfl)) rfl rfl fun a_338 HE339 => ?_
              refine pl fun K_340 hK341 => ?_
              refine st_store (vs := [.int .i64 ((muI a0).1), .int .i64 ((muI a0).2.1), .int .i64 ((muI a0).2.2.1), .slice A_6_3 ((List.length ((((splitR 10 a0).drop 1).take k).map readMR))) c_6_3]) 4 HE339 HH321 tv_68 rfl rfl rfl rfl rfl rfl (by simp [Value.oneCell']) (wt0 rfl) fun w' HH342 => hK341 _ _ ?_
              refine pl_x HE339 HH342 (wt0 rfl) (x_assign rfl) rfl rfl fun a_343 HE344 => ?_
              refine wpList_nil ?_
              clear a_328 HE329 HH321 a_338 HE339 hK341 K_340
              refine nrm ?_
              refine wp_ret ?_
              refine ret2 HE344 rfl (rv_cell rfl (tv_68.loadN (cs := [.int .i64 ((muI a0).1), .int .i64 ((muI a0).2.1), .int .i64 ((muI a0).2.2.1), .slice A_6_3 ((List.length ((((splitR 10 a0).drop 1).take k).map readMR))) c_6_3]) rfl (c_blkN 4 rfl _ HH342))) (rv_tmp rfl) ?_
              have HH345 := HH342.vecSo
              have HH346 := HH345.pairF (E := eInt) (c1 := [.int .i64 ((muI a0).2.2.1)]) (x := (muI a0).2.2.1) (oI (by exact ⟨by omega, by omega⟩))
              have HH347 := HH346.pairF (E := eInt) (c1 := [.int .i64 ((muI a0).2.1)]) (x := (muI a0).2.1) (oI (by exact ⟨by omega, by omega⟩))
              have HH348 := HH347.pairF (E := eInt) (c1 := [.int .i64 ((muI a0).1)]) (x := (muI a0).1) (oI (by exact ⟨by omega, by omega⟩))
              obtain ⟨S84, HH349⟩ : ∃ S, Held Nob w (rO eMulti S [.int .i64 ((muI a0).1), .int .i64 ((muI a0).2.1), .int .i64 ((muI a0).2.2.1), .slice A_6_3 ((List.length ((((splitR 10 a0).drop 1).take k).map readMR))) c_6_3] ((muI a0).1, (muI a0).2.1, (muI a0).2.2.1, ((((splitR 10 a0).drop 1).take k).map readMR)) :: _) _ := ⟨_, HH348⟩
              have hF : (rdMuI a0) = (((muI a0).1, (muI a0).2.1, (muI a0).2.2.1, ((((splitR 10 a0).drop 1).take k).map readMR)), true) := by
                first | exact rdMuI_3 rfl (by omega) hx0 (by omega) | (rw [rdMuI_eq rfl (by omega) hl0 (by omega) (by omega) hM]; first | (rw [if_pos ⟨by assumption, by assumption⟩]; done) | (exact if_neg (fun hh => ff hh.1 (by assumption))) | (exact if_neg (fun hh => absurd hh.2 (by assumption))))
              exact ⟨_, by first | (rw [hF] <;> rfl) | rfl | (rw [hF]; simp only [Ending.returned.injEq, Value.slice.injEq, true_and, and_true]; first | omega | (simp; done)) | (rw [hF]; simp; omega), by rw [hF]; exact (HH349.o (i := 0) rfl), HH349.below⟩
          · refine pl_no HE316 (wtF HE316 rfl rfl rfl (not_t hc81)) rfl rfl fun a_350 HE351 => ?_
            refine pl_no HE351 (wtF HE351 rfl rfl rfl (not_t hc81)) rfl rfl fun a_352 HE353 => ?_
            refine pl_no HE353 (wtF HE353 rfl rfl rfl (not_t hc81)) rfl rfl fun a_354 HE355 => ?_
            refine pl_no HE355 (wtF HE355 rfl rfl rfl (not_t hc81)) rfl rfl fun a_356 HE357 => ?_
            refine pl_x HE357 HH310 (wt0 rfl) (x_pickT rfl (not_t hc81) rfl) rfl rfl fun a_358 HE359 => ?_
            refine wpList_nil ?_
            clear a_163 HE164 HH162 a_306 HE307 a_311 HE312 a_313 HE314 a_315 HE316 a_350 HE351 a_352 HE353 a_354 HE355 a_356 HE357 hK309 K_308
            refine nrm ?_
            refine cndT HE359 rfl rfl ?_
            refine wp_seq ?_
            refine rg ?_
            refine pl_x HE359 HH310 (wt0 rfl) (show XS _ _ _ _ (.agg #[.int .i64 (0), .int .i64 (0), .int .i64 (0), .slice none (0) 0]) from x_build (vs := []) tb_68 rfl (by simp [Value.oneCell'])) rfl rfl fun a_360 HE361 => ?_
            refine pl fun K_362 hK363 => ?_
            refine st_store (vs := [.int .i64 (0), .int .i64 (0), .int .i64 (0), .slice none (0) 0]) 4 HE361 HH310 tv_68 rfl rfl rfl rfl rfl rfl (by simp [Value.oneCell']) (wt0 rfl) fun w' HH364 => hK363 _ _ ?_
            refine pl_x HE361 HH364 (wt0 rfl) (x_assign rfl) rfl rfl fun a_365 HE366 => ?_
            refine wpList_nil ?_
            clear a_358 HE359 HH310 a_360 HE361 hK363 K_362
            refine nrm ?_
            refine wp_ret ?_
            refine (thn_ret ?_)
            refine ret2 HE366 rfl (rv_cell rfl (tv_68.loadN (cs := [.int .i64 (0), .int .i64 (0), .int .i64 (0), .slice none (0) 0]) rfl (c_blkN 4 rfl _ HH364))) (rv_tmp rfl) ?_
            have HH367 := HH364.flatO (E := eMulti) (cs := [.int .i64 (0), .int .i64 (0), .int .i64 (0), .slice none (0) 0]) (x := (0, 0, 0, [])) (fun _ => (oPrN (oI (by exact ⟨by omega, by omega⟩)) (oPrN (oI (by exact ⟨by omega, by omega⟩)) (oPrN (oI (by exact ⟨by omega, by omega⟩)) (oSl (So.nil (Nat.zero_le _)))))))
            have hF : (rdMuI a0) = ((0, 0, 0, []), false) := by
              first | exact rdMuI_3 rfl (by omega) hx0 (by omega) | (rw [rdMuI_eq rfl (by omega) hl0 (by omega) (by omega) hM]; first | (rw [if_pos ⟨by assumption, by assumption⟩]; done) | (exact if_neg (fun hh => ff hh.1 (by assumption))) | (exact if_neg (fun hh => absurd hh.2 (by assumption))))
            exact ⟨_, by first | (rw [hF] <;> rfl) | rfl | (rw [hF]; simp only [Ending.returned.injEq, Value.slice.injEq, true_and, and_true]; first | omega | (simp; done)) | (rw [hF]; simp; omega), by rw [hF]; exact (HH367.o (i := 0) rfl), HH367.below⟩

end Go.Proofs.YtcfdkckchbdafaaGreatDoor
