/- What the proof of FnExactFractionsText needs: contracts of the functions that it reaches, each once. -/
import Derived.Test.YtjnnkmflpbildaaDoorProg
import Derived.Test.YtjnnkmflpbildaaDoorQMem
import Derived.Test.YtjnnkmflpbildaaDoorQOpen
import Derived.Test.YtjnnkmflpbildaaDoorLFractionsTexta
import Derived.WalkKit
import Derived.WalkSpells
import Derived.Below
import Derived.LoopTactic
import Derived.Outline
import Derived.Deep.QuietTactic
import Derived.BigQuiet
import Derived.Deep.LoopGhost
import Derived.Handy
import Derived.Lib.Hide
import Derived.Shelf.Abstract
import Derived.StillTailTactics
import Derived.OwnWalk
import Derived.Maps.AppendAt
import Derived.RegionTactic
import Derived.Deep.RegionHeld3
import Derived.IntWalk
import Derived.Deep.Upon
import Derived.Laws.OwnMore
import Derived.Maps.AppendAt
import Derived.Laws.BytesString
import Derived.Laws.Strings
import Derived.Lib.Bytes
import Derived.Lib.Strings
import Derived.Lib.FrozenHead
import Derived.Lib.RuneBytes
import Derived.Lib.LaidTab
import Derived.Lib.ItoaLen
import Derived.Lib.Join
import Derived.Shelf.Strconv.Itoa4
import Derived.Shelf.Strings.OnBuilder
import Derived.Shelf.Strings.BuilderK
import Derived.Shelf.Strings.BuilderRune
import Derived.Shelf.LaysM
import Derived.Ground.NamesProg
namespace Go.Proofs.YtjnnkmflpbildaaDoor
open Go.RowKit

set_option maxHeartbeats 400000 in
theorem spec_l08Is (A : Option Addr) (c : Nat) (xs : List tFraction) (w : World) (h : Sl eFraction w (Old w) A c xs) :
    Calls Tryd.prog 56 #[.slice A xs.length c] w fun e w' => e = .returned (.bool (validFrac xs)) ∧ w = w' := by
  unfold validFrac
  have hlen := h.len
  have H := Lib.hid h; clear h
  by_cases h1 : xs.length < 1
  · have hw : withinB xs.length 1 100 = false := by unfold withinB; simp; omega
    rw [hw]
    have h1' : (xs.length : Int) < 1 := by omega
    go_enter Tryd.func56, Tryd.ntmps56
    go_wp2
    go_ret
    exact ⟨rfl, rfl⟩
  by_cases h2 : xs.length > 100
  · have hw : withinB xs.length 1 100 = false := by unfold withinB; simp; omega
    rw [hw]
    have h1' : decide ((xs.length : Int) < 1) = false := by simp; omega
    have h2' : (100 : Int) < (xs.length : Int)  := by omega
    go_enter Tryd.func56, Tryd.ntmps56
    go_wp2
    go_ret
    exact ⟨rfl, rfl⟩
  have hw : withinB xs.length 1 100 = true := by unfold withinB; simp; omega
  rw [hw]; clear hw
  have h1' : decide ((xs.length : Int) < 1) = false := by simp; omega
  have h2' : decide ((100 : Int) < (xs.length : Int)) = false := by simp; omega
  go_enter Tryd.func56, Tryd.ntmps56
  go_wp2
  go_loop [3] (fun i => ∃ k : Nat, k ≤ xs.length ∧ i = .int .i64 k ∧ Hid ((xs.take k).any fracBad = false)) (fun i => xs.length - (intOf i).toNat)
  case atStart => exact ⟨0, Nat.zero_le _, rfl, rfl⟩
  case round =>
    obtain ⟨k, hk, rfl, HN⟩ := hrel
    by_cases hlt : k < xs.length
    · have hltz : (k : Int) < (xs.length : Int) := by omega
      obtain ⟨b, off, es, rfl, hb, hR, hc⟩ := H.out.at hlt
      obtain ⟨rfl, hi1, hi2⟩ := shape_Fraction hR
      have c0 : w.cell? ⟨b, off + k * 2, none⟩ = some (.int .i64 xs[k].1) := hc 0 _ rfl
      have c1 : w.cell? ⟨b, off + k * 2 + 1, none⟩ = some (.int .i64 xs[k].2) := hc 1 _ rfl
      clear hc hR hi1 hi2
      have HF : Hid (fracBad xs[k] = (!withinB xs[k].1 1 999999 || !withinB xs[k].2 1 999999)) := rfl
      have HT : Hid (fracBad xs[k] = true → xs.any fracBad = true) := fun e => any_hit hlt e
      have HS : Hid (fracBad xs[k] = false → (xs.take (k + 1)).any fracBad = false) := fun e => any_step hlt HN.out e
      generalize xs[k] = y at c0 c1 HF HT HS
      obtain ⟨u, d⟩ := y
      cases q1 : withinB u 1 999999
      · go_wp2_with (go_at_call 52; refine (spec_l00In _ _ _ _).mono ?_; rintro e w' ⟨rfl, rfl⟩; rw [q1])
        go_ret
        exact ⟨by rw [HT.out (by rw [HF.out]; simp [q1])]; rfl, rfl⟩
      · cases q2 : withinB d 1 999999
        · go_wp2_with (go_at_call 52; refine (spec_l00In _ _ _ _).mono ?_; rintro e w' ⟨rfl, rfl⟩; first | rw [q1] | rw [q2])
          go_ret
          exact ⟨by rw [HT.out (by rw [HF.out]; simp [q1, q2])]; rfl, rfl⟩
        · go_wp2_with (go_at_call 52; refine (spec_l00In _ _ _ _).mono ?_; rintro e w' ⟨rfl, rfl⟩; first | rw [q1] | rw [q2])
          go_round
          case rel => exact ⟨k + 1, by omega, by go_num, HS.out (by rw [HF.out]; simp [q1, q2])⟩
          case measure => simp [intOf]; omega
    · have hltz : ¬ (k : Int) < (xs.length : Int) := by omega
      obtain rfl : k = xs.length := by omega
      go_wp2
      go_ret
      refine ⟨?_, rfl⟩
      have := HN.out
      rw [List.take_length] at this
      rw [this]; rfl

theorem left_ok {l : Int} {n : Nat} (h : ¬ left l n < 0) : left l n = l - (n : Int) ∧ (n : Int) ≤ l := by
  unfold left at *; split at h <;> simp_all <;> omega

theorem validFrac_facts {xs : List tFraction} (h : validFrac xs = true) : xs.length ≤ 100 ∧ ∀ x ∈ xs, (1 ≤ x.1 ∧ x.1 ≤ 999999) ∧ 1 ≤ x.2 ∧ x.2 ≤ 999999 := by
  unfold validFrac at h
  simp only [Bool.and_eq_true, Bool.not_eq_true', List.any_eq_false] at h
  have h1 := withinB_true.1 h.1
  refine ⟨by omega, fun x hx => ?_⟩
  have := h.2 x hx
  unfold fracBad at this
  simp only [Bool.or_eq_true, not_or, Bool.not_eq_true', Bool.not_eq_false] at this
  have h2 := withinB_true.1 this.1
  have h3 := withinB_true.1 this.2
  omega

/-- The library's table that the decimal forms are made with. -/
def Glob (w : World) : Prop := Lib.TabIs Tryd.prog w "internal/strconv.uint64pow10" .u64 Lib.pow10Tab

theorem globNum : Tryd.prog.globalNamed "internal/strconv.uint64pow10" = some 0 := by kernel_rfl

theorem Held.glob {w0 w : World} {rs : List Res} (h : Held Nob w0 rs w) (hG : Glob w0) : Glob w := tab_below globNum hG h.below

theorem grow_below (w : World) (k : Nat) (os : Array Obj) : Below w.heap.size w (Go.Sort.grow (w.drewN k) os) :=
  ⟨rfl, rfl, rfl, by show w.heap.size ≤ (w.heap ++ os).size; rw [Array.size_append]; omega, fun b hb => Go.Sort.heap_grow_old (w.drewN k) os hb⟩

def shelf_M173_ren : Go.Shelf.Ren := ⟨fun | 173 => 108 | 246 => 149 | 283 => 168 | 284 => 169 | 285 => 170 | 286 => 171 | 129 => 180 | 317 => 179 | 318 => 181 | 319 => 182 | 320 => 183 | 337 => 186 | 338 => 187 | n => n, fun | 2 => 2 | 3 => 3 | 9 => 9 | 4 => 4 | 171 => 211 | 0 => 0 | 53 => 212 | 37 => 159 | 5 => 5 | 173 => 215 | 212 => 226 | 51 => 222 | 20 => 20 | 213 => 227 | 46 => 229 | 232 => 232 | 233 => 233 | n => n, fun | 17 => 0 | 18 => 2 | 19 => 3 | n => n⟩

theorem shelf_M173 : Go.Proofs.LaysM.n173 Tryd.prog shelf_M173_ren := {
  mixed := by kernel_rfl
  f129 := Tryd.func180.trans (congrArg some (by kernel_rfl))
  f173 := Tryd.func108.trans (congrArg some (by kernel_rfl))
  f246 := Tryd.func149.trans (congrArg some (by kernel_rfl))
  f283 := Tryd.func168.trans (congrArg some (by kernel_rfl))
  f284 := Tryd.func169.trans (congrArg some (by kernel_rfl))
  f285 := Tryd.func170.trans (congrArg some (by kernel_rfl))
  f286 := Tryd.func171.trans (congrArg some (by kernel_rfl))
  f317 := Tryd.func179.trans (congrArg some (by kernel_rfl))
  f318 := Tryd.func181.trans (congrArg some (by kernel_rfl))
  f319 := Tryd.func182.trans (congrArg some (by kernel_rfl))
  f320 := Tryd.func183.trans (congrArg some (by kernel_rfl))
  f337 := Tryd.func186.trans (congrArg some (by kernel_rfl))
  f338 := Tryd.func187.trans (congrArg some (by kernel_rfl))
  t0 := Tryd.underlying0
  a0 := Tryd.isAgg0
  z0 := Tryd.sizeOf0
  v0 := Tryd.zeroValue0
  t2 := Tryd.underlying2
  a2 := Tryd.isAgg2
  z2 := Tryd.sizeOf2
  v2 := Tryd.zeroValue2
  t3 := Tryd.underlying3
  a3 := Tryd.isAgg3
  z3 := Tryd.sizeOf3
  v3 := Tryd.zeroValue3
  t4 := Tryd.underlying4
  a4 := Tryd.isAgg4
  z4 := Tryd.sizeOf4
  v4 := Tryd.zeroValue4
  t5 := Tryd.underlying5
  a5 := Tryd.isAgg5
  z5 := Tryd.sizeOf5
  v5 := Tryd.zeroValue5
  t9 := Tryd.underlying9
  a9 := Tryd.isAgg9
  z9 := Tryd.sizeOf9
  v9 := Tryd.zeroValue9
  t20 := Tryd.underlying20
  a20 := Tryd.isAgg20
  z20 := Tryd.sizeOf20
  v20 := Tryd.zeroValue20
  t37 := Tryd.underlying159
  a37 := Tryd.isAgg159
  z37 := Tryd.sizeOf159
  v37 := Tryd.zeroValue159
  t46 := Tryd.underlying229
  a46 := Tryd.isAgg229
  z46 := Tryd.sizeOf229
  v46 := Tryd.zeroValue229
  t51 := Tryd.underlying222
  a51 := Tryd.isAgg222
  z51 := Tryd.sizeOf222
  v51 := Tryd.zeroValue222
  t53 := Tryd.underlying212
  a53 := Tryd.isAgg212
  z53 := Tryd.sizeOf212
  v53 := Tryd.zeroValue212
  t171 := Tryd.underlying211
  a171 := Tryd.isAgg211
  z171 := Tryd.sizeOf211
  v171 := Tryd.zeroValue211
  t173 := Tryd.underlying215
  a173 := Tryd.isAgg215
  z173 := Tryd.sizeOf215
  v173 := Tryd.zeroValue215
  t212 := Tryd.underlying226
  a212 := Tryd.isAgg226
  z212 := Tryd.sizeOf226
  v212 := Tryd.zeroValue226
  t213 := Tryd.underlying227
  a213 := Tryd.isAgg227
  z213 := Tryd.sizeOf227
  t232 := Tryd.underlying232
  a232 := Tryd.isAgg232
  z232 := Tryd.sizeOf232
  v232 := Tryd.zeroValue232
  t233 := Tryd.underlying233
  a233 := Tryd.isAgg233
  z233 := Tryd.sizeOf233
  v233 := Tryd.zeroValue233
  g17 := by kernel_rfl
  g18 := by kernel_rfl
  g19 := by kernel_rfl
  i0 := by kernel_rfl
  i2 := by kernel_rfl
  i3 := by kernel_rfl
  i4 := by kernel_rfl
  i5 := by kernel_rfl
  i9 := by kernel_rfl
  i20 := by kernel_rfl
  i37 := by kernel_rfl
  i46 := by kernel_rfl
  i51 := by kernel_rfl
  i53 := by kernel_rfl
  i171 := by kernel_rfl
  i173 := by kernel_rfl
  i212 := by kernel_rfl
  i232 := by kernel_rfl
  i233 := by kernel_rfl
  m17 := by kernel_rfl
  m18 := by kernel_rfl
  m19 := by kernel_rfl }

def shelf_156_ren : Go.Shelf.Ren := ⟨fun | 156 => 61 | 165 => 109 | 166 => 110 | 169 => 111 | 240 => 150 | 241 => 151 | 276 => 172 | 277 => 173 | n => n, fun | 31 => 106 | 9 => 9 | 3 => 3 | 4 => 4 | 0 => 0 | 20 => 20 | 72 => 161 | 76 => 165 | 70 => 158 | 37 => 159 | 75 => 164 | 127 => 198 | 164 => 217 | 5 => 5 | 80 => 167 | n => n, fun | n => n⟩

theorem shelf_156 : Go.Proofs.Lays.n156 Tryd.prog shelf_156_ren := {
  mixed := by kernel_rfl
  f156 := Tryd.func61.trans (congrArg some (by kernel_rfl))
  f165 := Tryd.func109.trans (congrArg some (by kernel_rfl))
  f166 := Tryd.func110.trans (congrArg some (by kernel_rfl))
  f169 := Tryd.func111.trans (congrArg some (by kernel_rfl))
  f240 := Tryd.func150.trans (congrArg some (by kernel_rfl))
  f241 := Tryd.func151.trans (congrArg some (by kernel_rfl))
  f276 := Tryd.func172.trans (congrArg some (by kernel_rfl))
  f277 := Tryd.func173.trans (congrArg some (by kernel_rfl))
  t0 := Tryd.underlying0
  a0 := Tryd.isAgg0
  z0 := Tryd.sizeOf0
  v0 := Tryd.zeroValue0
  t3 := Tryd.underlying3
  a3 := Tryd.isAgg3
  z3 := Tryd.sizeOf3
  v3 := Tryd.zeroValue3
  t4 := Tryd.underlying4
  a4 := Tryd.isAgg4
  z4 := Tryd.sizeOf4
  v4 := Tryd.zeroValue4
  t9 := Tryd.underlying9
  a9 := Tryd.isAgg9
  z9 := Tryd.sizeOf9
  v9 := Tryd.zeroValue9
  t20 := Tryd.underlying20
  a20 := Tryd.isAgg20
  z20 := Tryd.sizeOf20
  v20 := Tryd.zeroValue20
  t31 := Tryd.underlying106
  a31 := Tryd.isAgg106
  z31 := Tryd.sizeOf106
  v31 := Tryd.zeroValue106
  t37 := Tryd.underlying159
  a37 := Tryd.isAgg159
  z37 := Tryd.sizeOf159
  v37 := Tryd.zeroValue159
  t70 := Tryd.underlying158
  a70 := Tryd.isAgg158
  z70 := Tryd.sizeOf158
  v70 := Tryd.zeroValue158
  t72 := Tryd.underlying161
  a72 := Tryd.isAgg161
  z72 := Tryd.sizeOf161
  v72 := Tryd.zeroValue161
  t75 := Tryd.underlying164
  a75 := Tryd.isAgg164
  z75 := Tryd.sizeOf164
  v75 := Tryd.zeroValue164
  t76 := Tryd.underlying165
  a76 := Tryd.isAgg165
  z76 := Tryd.sizeOf165
  v76 := Tryd.zeroValue165
  t127 := Tryd.underlying198
  a127 := Tryd.isAgg198
  z127 := Tryd.sizeOf198
  v127 := Tryd.zeroValue198
  t164 := Tryd.underlying217
  a164 := Tryd.isAgg217
  z164 := Tryd.sizeOf217
  v164 := Tryd.zeroValue217 }

theorem shelf_X_Builder_Extra_156 : Builder.Extra Tryd.prog shelf_156_ren where
  sizeBuilder := by kernel_rfl
  liesBuilder := by kernel_rfl
  t5 := Tryd.underlying5
  a5 := Tryd.isAgg5
  z5 := Tryd.sizeOf5
  v5 := Tryd.zeroValue5
  infoByte := by kernel_rfl
  cellsByte := by kernel_rfl
  sizeByte := by kernel_rfl
  neB5 := by decide

theorem FormatInt_10 (a0 a1 : Int) (w : World) (hG : Glob w) (s0 : -9223372036854775808 ≤ a0 ∧ a0 ≤ 9223372036854775807) (s1 : a1 = 10) :
    Calls Tryd.prog 108 #[.int .i64 a0, .int .i64 a1] w fun e w' => e = .returned (.string (bs (Go.Lib.itoa a0))) ∧ Below w.heap.size w w' := by
  subst s1
  refine (show Calls Tryd.prog 108 #[.int .i64 a0, .int .i64 10] w _ from Any.strconv_FormatInt_10 shelf_M173 a0 s0.1 s0.2 w hG).mono ?_
  rintro e w' ⟨rfl, k, os, rfl⟩
  exact ⟨rfl, grow_below _ _ _⟩

theorem map_bs (xs : List (List UInt8)) : (xs.map bs).map (fun x : ByteArray => x.data.toList) = xs := by
  rw [List.map_map]
  exact (List.map_congr_left fun x _ => by simp [bs]).trans (List.map_id xs)

theorem Join_Str (A : Option Addr) (c : Nat) (a0 : List (List UInt8)) (a1 : List UInt8) (w : World) (h0 : Sl eTxt w (Old w) A c a0) (s0 : a0.length ≤ 1000000000) (s1 : (Go.Lib.join a0 a1).length ≤ 1000000000) :
    Calls Tryd.prog 61 #[.slice A a0.length c, .string (bs a1)] w fun e w' => e = .returned (.string (bs (Go.Lib.join a0 a1))) ∧ Below w.heap.size w w' := by
  by_cases hx : a0 = []
  · subst hx
    refine (show Calls Tryd.prog 61 #[.slice A 0 c, .string (bs a1)] w _ from Any.strings_Join_none shelf_156 shelf_X_Builder_Extra_156 A c (bs a1) w).mono ?_
    rintro e w' ⟨rfl, rfl⟩
    exact ⟨rfl, Below.refl _ _⟩
  · obtain ⟨b, off, rfl, hb, hc⟩ := h0.2.2 hx
    have hl : a0.length = (a0.map bs).length := (List.length_map _).symm
    have hj : Go.Lib.join ((a0.map bs).map (·.data.toList)) (bs a1).data.toList = Go.Lib.join a0 a1 := by rw [map_bs]
    rw [hl]
    refine (show Calls Tryd.prog 61 #[.slice (some ⟨b, off, none⟩) (a0.map bs).length c, .string (bs a1)] w _ from Any.strings_Join shelf_156 shelf_X_Builder_Extra_156 b off c (a0.map bs) (bs a1) w ?_ hb (by rw [← hl]; omega) (by rw [← hl]; exact h0.1) (by rw [hj]; omega)).mono ?_
    · intro j x hjx
      rw [List.getElem?_map, Option.map_eq_some_iff] at hjx
      obtain ⟨y, hy, rfl⟩ := hjx
      obtain ⟨es, ⟨rfl, _⟩, h2⟩ := hc j y hy
      have := h2 0 _ rfl
      rwa [show off + j * eTxt.size + 0 = off + j from by simp [eTxt]] at this
    · rintro e w' ⟨rfl, h2⟩
      rw [hj]
      exact ⟨rfl, h2⟩

/-- The decimal digits of a number, the last one first, as bytes; none for 0. -/
def lowD (n : Nat) : List Int := if h : n = 0 then [] else (48 + (n % 10 : Nat) : Int) :: lowD (n / 10)
termination_by n
decreasing_by omega

theorem lowD_zero : lowD 0 = [] := by rw [lowD, dif_pos rfl]

theorem lowD_pos {n : Nat} (h : 0 < n) : lowD n = (48 + (n % 10 : Nat) : Int) :: lowD (n / 10) := by rw [lowD, dif_neg (by omega)]

theorem bytesOf_app (a b : List Int) : Go.Lib.bytesOf (a ++ b) = Go.Lib.bytesOf a ++ Go.Lib.bytesOf b := by simp [Go.Lib.bytesOf]

theorem bytesOf_one (a : Nat) : Go.Lib.bytesOf [(48 + (a : Nat) : Int)] = [UInt8.ofNat (48 + a)] := by
  simp only [Go.Lib.bytesOf, List.map_cons, List.map_nil]
  rw [show (48 + (a : Int)).toNat = 48 + a from by omega]

theorem lowD_dec (n : Nat) (h : 0 < n) : Go.Lib.bytesOf (lowD n).reverse = Go.Lib.decDigits n := by
  induction n using Nat.strongRecOn with
  | _ n ih =>
    rw [lowD_pos h, List.reverse_cons, bytesOf_app, bytesOf_one, Go.Lib.decDigits]
    by_cases h1 : n < 10
    · rw [dif_pos h1, show n / 10 = 0 from by omega, lowD_zero, Nat.mod_eq_of_lt h1]; rfl
    · rw [dif_neg h1, ih (n / 10) (by omega) (by omega)]

theorem nDigits_le (k : Nat) : ∀ n : Nat, n < 10 ^ (k + 1) → Go.Lib.nDigits n ≤ k + 1 := by
  induction k with
  | zero => intro n h; rw [Go.Lib.nDigits_small (by simpa using h)]; omega
  | succ k ih =>
    intro n h
    by_cases h1 : n < 10
    · rw [Go.Lib.nDigits_small h1]; omega
    · rw [Go.Lib.nDigits_big h1]; have := ih (n / 10) (by rw [Nat.pow_succ] at h; omega); omega

theorem itoa_len {n : Int} (h : -9223372036854775808 ≤ n ∧ n ≤ 9223372036854775807) : 1 ≤ (Go.Lib.itoa n).length ∧ (Go.Lib.itoa n).length ≤ 20 := by
  unfold Go.Lib.itoa
  split
  · have h1 := nDigits_le 18 n.natAbs (by omega)
    have h2 := Go.Lib.nDigits_pos n.natAbs
    rw [List.length_cons, Go.Lib.decDigits_length]; omega
  · have h1 := nDigits_le 18 n.toNat (by omega)
    have h2 := Go.Lib.nDigits_pos n.toNat
    rw [Go.Lib.decDigits_length]; omega

theorem itoa_low {n : Int} (h : 0 < n) : Go.Lib.itoa n = Go.Lib.bytesOf (lowD n.toNat).reverse := by
  rw [lowD_dec _ (by omega)]; unfold Go.Lib.itoa; rw [if_neg (by omega)]

theorem join_snoc (xs : List (List UInt8)) (y sep : List UInt8) : Go.Lib.join (xs ++ [y]) sep = if xs = [] then y else Go.Lib.join xs sep ++ sep ++ y := by
  cases xs with
  | nil => rw [if_pos rfl, List.nil_append, Go.Lib.join_one]
  | cons x r => rw [if_neg (by simp), List.cons_append, Go.Lib.join_cons, Go.Lib.join_cons]; simp [Go.Lib.joinTail]

theorem join_step {α : Type} (f : α → List UInt8) (l : List α) {k : Nat} (hk : k < l.length) (sep : List UInt8) : Go.Lib.join ((l.take (k + 1)).map f) sep = if k = 0 then f l[k] else Go.Lib.join ((l.take k).map f) sep ++ sep ++ f l[k] := by
  rw [List.take_succ_eq_append_getElem hk, List.map_append, List.map_cons, List.map_nil, join_snoc]
  by_cases h : k = 0
  · subst h; simp
  · rw [if_neg h, if_neg]
    intro h2
    have h3 := congrArg List.length h2
    rw [List.length_map, List.length_take, List.length_nil] at h3
    omega

theorem join_len (B : Nat) (sep : List UInt8) : ∀ xs : List (List UInt8), (∀ x ∈ xs, x.length ≤ B) → (Go.Lib.join xs sep).length ≤ xs.length * (B + sep.length)
  | [], _ => by simp [Go.Lib.join_nil]
  | x :: r, h => by
    have h1 := h x (by simp)
    have h2 : Go.Lib.lens r ≤ r.length * B := by
      have h3 : ∀ y ∈ r, y.length ≤ B := fun y hy => h y (by simp [hy])
      clear h
      induction r with
      | nil => simp [Go.Lib.lens]
      | cons y r ih =>
        have h4 := ih fun z hz => h3 z (by simp [hz])
        have h5 := h3 y (by simp)
        simp only [Go.Lib.lens, List.map_cons, List.sum_cons, List.length_cons, Nat.succ_mul] at h4 ⊢
        omega
    rw [Go.Lib.join_length, List.length_cons, Nat.succ_mul]
    simp only [Go.Lib.lens, List.map_cons, List.sum_cons] at h2 ⊢
    have h6 : sep.length * r.length = r.length * sep.length := Nat.mul_comm _ _
    have h7 : r.length * (B + sep.length) = r.length * B + r.length * sep.length := Nat.mul_add _ _ _
    omega

theorem drop_revI {l : List Int} {k : Nat} (h0 : 0 < k) (h1 : k ≤ l.length) : (l.drop (k - 1)).reverse = (l.drop k).reverse ++ [l[k - 1]] := by
  rw [List.drop_eq_getElem_cons (by omega : k - 1 < l.length), List.reverse_cons, show k - 1 + 1 = k from by omega]

theorem Sl.i64 {w : World} {S : Nat → Prop} {A : Option Addr} {c : Nat} {xs : List Int} (h : Sl eInt w S A c xs) : ∀ x ∈ xs, -9223372036854775808 ≤ x ∧ x ≤ 9223372036854775807 := by
  intro x hx
  obtain ⟨i, hi⟩ := List.mem_iff_getElem?.1 hx
  obtain ⟨b, off, _, _, hc⟩ := h.2.2 (fun e => by rw [e] at hx; cases hx)
  obtain ⟨es, ⟨_, h1⟩, _⟩ := hc i x hi
  exact h1

theorem join_take_len {α : Type} {f : α → List UInt8} {l : List α} {sep : List UInt8} {B : Nat} (h : ∀ x ∈ l, (f x).length + sep.length ≤ B) (k : Nat) : (Go.Lib.join ((l.take k).map f) sep).length ≤ B * l.length := by
  by_cases hn : l = []
  · subst hn; simp [Go.Lib.join_nil]
  · obtain ⟨x0, hx0⟩ := List.exists_mem_of_ne_nil l hn
    have hs := h x0 hx0
    have h1 := join_len (B - sep.length) sep ((l.take k).map f) (by
      intro y hy
      obtain ⟨x, hx, rfl⟩ := List.mem_map.1 hy
      have := h x (List.mem_of_mem_take hx)
      omega)
    rw [List.length_map, List.length_take, show B - sep.length + sep.length = B from by omega] at h1
    have h2 : min k l.length * B ≤ l.length * B := Nat.mul_le_mul_right _ (by omega)
    rw [Nat.mul_comm B]
    omega

theorem join_step0 {α : Type} (f : α → List UInt8) (l : List α) {k : Nat} (hk : k < l.length) (h0 : k = 0) (sep : List UInt8) : Go.Lib.join ((l.take (k + 1)).map f) sep = Go.Lib.join ((l.take k).map f) sep ++ f l[k] := by
  rw [join_step f l hk, if_pos h0]; subst h0; simp [Go.Lib.join_nil]

theorem join_step1 {α : Type} (f : α → List UInt8) (l : List α) {k : Nat} (hk : k < l.length) (h0 : 0 < k) (sep : List UInt8) : Go.Lib.join ((l.take (k + 1)).map f) sep = Go.Lib.join ((l.take k).map f) sep ++ sep ++ f l[k] := by
  rw [join_step f l hk, if_neg (by omega)]

set_option maxRecDepth 100000 in
set_option maxHeartbeats 4000000 in
theorem impl_Decimal (a0 : Int) (w : World) (hG : Glob w) (s0 : -9223372036854775808 ≤ a0 ∧ a0 ≤ 9223372036854775807) :
    Calls Tryd.prog 60 #[.int .i64 a0] w fun e w' => e = .returned (.string (bs (Go.Lib.itoa a0))) ∧ Below w.heap.size w w' := by
  have HH1 := Held.start Nob w
  refine enter (n := 5) Tryd.func60 rfl rfl rfl fun a_2 HE3 => ?_
  refine wp_seq ?_
  refine rg ?_
  refine pl_x HE3 HH1 (wt0 rfl) (x_assign rfl) rfl rfl fun a_4 HE5 => ?_
  refine wpList_nil ?_
  clear a_2 HE3
  refine nrm ?_
  refine wp_seq ?_
  refine rg ?_
  refine pl_x HE5 HH1 (wt0 rfl) (x_move rfl) rfl rfl fun a_6 HE7 => ?_
  refine pl fun K_8 hK9 => ?_
  refine st_call HE7 (wt0 rfl) rfl rfl rfl en_108 rfl rfl (FormatInt_10 a0 10 _ (HH1.glob hG) (by omega) (by rfl)) fun e w' hr => ?_
  have hAr21_0 := itoa_len (n := a0) (by omega)
  obtain ⟨rfl, hbr21⟩ := hr
  have HH10 := HH1.on hbr21
  refine ⟨_, rfl, fun a_11 HE12 => hK9 _ _ ?_⟩
  refine pl_x HE12 HH10 (wt0 rfl) (x_assign rfl) rfl rfl fun a_13 HE14 => ?_
  refine wpList_nil ?_
  clear a_4 HE5 HH1 a_6 HE7 a_11 HE12 hK9 K_8
  refine nrm ?_
  refine wp_ret ?_
  refine ret1 HE14 rfl (rv_tmp rfl) ?_
  have hF : (Go.Lib.itoa a0) = (Go.Lib.itoa a0) := by
    first | rfl | (simp [Go.Lib.itoa]; done) | (simp [Go.Lib.itoa]; omega) | grind [Go.Lib.itoa]
  exact ⟨by first | (rw [hF] <;> rfl) | rfl | (rw [hF]; simp only [Ending.returned.injEq, Value.slice.injEq, true_and, and_true]; first | omega | (simp; done)) | (rw [hF]; simp; omega), HH10.below⟩

set_option maxRecDepth 100000 in
set_option maxHeartbeats 4000000 in
theorem spec_l01Dec (a0 : Int) (w : World) (s0 : 0 ≤ a0 ∧ a0 ≤ 100000000000000) :
    Calls Tryd.prog 103 #[.int .i64 a0] w fun e w' => e = .returned (.string (bs (Go.Lib.itoa a0))) ∧ Below w.heap.size w w' := by
  have HH1 := Held.start Nob w
  refine enter (n := 50) Tryd.func103 rfl rfl rfl fun a_2 HE3 => ?_
  refine wp_seq ?_
  refine rg ?_
  refine pl_x HE3 HH1 (wt0 rfl) (x_assign rfl) rfl rfl fun a_4 HE5 => ?_
  refine wpList_nil ?_
  clear a_2 HE3
  refine nrm ?_
  refine wp_seq ?_
  refine wp_seq ?_
  refine rg ?_
  refine pl_x HE5 HH1 (wt0 rfl) (x_move rfl) rfl rfl fun a_6 HE7 => ?_
  refine pl_x HE7 HH1 (wt0 rfl) (x_eql rfl rfl) rfl rfl fun a_8 HE9 => ?_
  refine wpList_nil ?_
  clear a_4 HE5 a_6 HE7
  refine nrm ?_
  refine cnd_e HE9 rfl (fun hc21 => ?_) (fun hc21 => ?_)
  · refine wp_seq ?_
    refine rg ?_
    refine pl_x HE9 HH1 (wt0 rfl) (x_assign rfl) rfl rfl fun a_10 HE11 => ?_
    refine wpList_nil ?_
    clear a_8 HE9
    refine nrm ?_
    refine wp_ret ?_
    refine (thn_ret ?_)
    refine ret1 HE11 rfl (rv_tmp rfl) ?_
    have hF : (Go.Lib.itoa a0) = [48] := by
      first | (rw [show a0 = 0 from by omega]; simp [Go.Lib.itoa, Go.Lib.decDigits]; done) | (rw [itoa_low (by omega), ‹lowD a0.toNat = _›, show u = 0 from by omega, lowD_zero, List.append_nil, show k = 0 from by omega, List.drop_zero])
    exact ⟨by first | (rw [hF] <;> rfl) | rfl | (rw [hF]; simp only [Ending.returned.injEq, Value.slice.injEq, true_and, and_true]; first | omega | (simp; done)) | (rw [hF]; simp; omega), HH1.below⟩
  · refine wp_skip ?_
    refine nrm ?_
    refine wp_seq ?_
    refine rg ?_
    refine pl fun K_12 hK13 => ?_
    refine st_lit (m := 0) (cs := []) (e := 5) HE9 HH1 (run_lit ts_159 HE9 (vs := []) rfl rfl (by simp [Value.cells]) rfl (by decide)) (wt0 rfl) rfl rfl fun q22 a_14 w' HE15 HH16 => hK13 _ _ ?_
    refine pl_x HE15 HH16 (wt0 rfl) (x_assign rfl) rfl rfl fun a_17 HE18 => ?_
    refine wpList_nil ?_
    clear a_8 HE9 HH1 a_14 HE15 hK13 K_12
    refine nrm ?_
    refine wp_seq ?_
    refine wp_seq ?_
    refine rg ?_
    refine pl_x HE18 HH16 (wt0 rfl) (x_move rfl) rfl rfl fun a_19 HE20 => ?_
    refine pl_x HE20 HH16 (wt0 rfl) (x_assign rfl) rfl rfl fun a_21 HE22 => ?_
    refine wpList_nil ?_
    clear a_17 HE18 a_19 HE20
    refine nrm ?_
    refine wp_block ?_
    have HH23 := Held.vecFlat (E := eByte) (xs := []) (css := []) HH16 rfl (Nat.zero_le _) (fun i x hx => by simp at hx)
    refine lp (fun m a w' => ∃ (u : Nat) (l : List Int) (A_3 : Option Addr) (c_3 : Nat) (S_3 : Nat → Prop), m = 0 + u ∧ Env 50 [(3, .slice A_3 (List.length l) c_3), (4, .int .i64 (u : Int)), (0, .int .i64 (a0))] a ∧ Held Nob w [rVec eByte 5 S_3 A_3 c_3 l] w' ∧ (lowD a0.toNat = l ++ lowD u) ∧ (l.length + u ≤ a0.toNat)) (0 + (a0.toNat)) ?_ ?_
    · have E23 : ([]) = ([] : List Int) := by
        first | rfl | simp
      exact ⟨a0.toNat, [], (some ⟨q22, 0, none⟩), (List.length (α := Int) []), (fun b => b = q22), rfl, HE22.sub ⟨(by rw [E23]; rfl), (lkI rfl (by omega)), rfl, trivial⟩, ((HH23.sel [0] (by decide) rfl).to (by first | rfl | (rw [E23]; done) | (rw [E23]; rfl) | (simp only [E23]; done) | (simp only [E23]; rfl))), (by rfl), (by first | omega | assumption | (simp; done) | simp_all)⟩
    · rintro m a_24 w' ⟨u, l, A_3, c_3, S_3, rfl, HE25, HH26, p24_0, p24_1⟩
      refine wp_seq ?_
      refine wp_seq ?_
      refine rg ?_
      refine pl_x HE25 HH26 (wt0 rfl) (x_move rfl) rfl rfl fun a_27 HE28 => ?_
      refine pl_x HE28 HH26 (wt0 rfl) (x_neq rfl rfl) rfl rfl fun a_29 HE30 => ?_
      refine wpList_nil ?_
      clear HH16 a_21 HE22 HH23 a_24 HE25 a_27 HE28
      refine nrm ?_
      refine cnd_ne HE30 rfl (fun hc25 => ?_) (fun hc25 => ?_)
      · refine wp_skip ?_
        refine nrm ?_
        refine wp_seq ?_
        refine wp_block ?_
        refine wp_seq ?_
        refine rg ?_
        refine pl_x HE30 HH26 (wt0 rfl) (x_move rfl) rfl rfl fun a_31 HE32 => ?_
        refine pl_x HE32 HH26 (wt0 rfl) (x_rem rfl rfl (by omega) (by omega)) rfl rfl fun a_33 HE34 => ?_
        refine pl_x HE34 HH26 (wt0 rfl) (x_assign rfl) rfl rfl fun a_35 HE36 => ?_
        refine wpList_nil ?_
        clear a_29 HE30 a_31 HE32 a_33 HE34
        refine nrm ?_
        refine wp_seq ?_
        refine wp_seq ?_
        refine rg ?_
        refine pl_x HE36 HH26 (wt0 rfl) (x_move rfl) rfl rfl fun a_37 HE38 => ?_
        refine pl_x HE38 HH26 (wt0 rfl) (x_lss rfl rfl) rfl rfl fun a_39 HE40 => ?_
        refine wpList_nil ?_
        clear a_35 HE36 a_37 HE38
        refine nrm ?_
        refine cnd_d HE40 rfl (fun hc26 => ?_) (fun hc26 => ?_)
        · exfalso; omega
        · refine wp_skip ?_
          refine nrm ?_
          refine rg ?_
          refine pl_x HE40 HH26 (wt0 rfl) (x_move rfl) rfl rfl fun a_41 HE42 => ?_
          refine pl_x HE42 HH26 (wt0 rfl) (x_move rfl) rfl rfl fun a_43 HE44 => ?_
          refine pl_x HE44 HH26 (wt0 rfl) (x_add rfl rfl (by exact ⟨by omega, by omega⟩)) rfl rfl fun a_45 HE46 => ?_
          refine pl_x HE46 HH26 (wt0 rfl) (x_conv8 Tryd.underlying2 Tryd.underlying5 rfl (by constructor <;> omega)) rfl rfl fun a_47 HE48 => ?_
          refine pl fun K_49 hK50 => ?_
          refine st_lit (m := 1) (cs := [.int .u8 ((48 + ((u : Int) % 10)))]) (e := 5) HE48 HH26 (run_lit ts_159 HE48 (vs := [.int .u8 ((48 + ((u : Int) % 10)))]) rfl rfl (by simp [Value.cells]) rfl (by decide)) (wt0 rfl) rfl rfl fun q27 a_51 w' HE52 HH53 => hK50 _ _ ?_
          refine pl fun K_54 hK55 => ?_
          refine st_app1F (48 + ((u : Int) % 10)) HE52 HH53 ts_159 [1, 0] (by decide) rfl (fun _ => (oY (by constructor <;> omega))) rfl rfl (by simp [Value.oneCell']) (by unfold maxLen; first | omega | (simp; done) | (simp; omega)) (by first | omega | (simp; done) | (simp; omega)) (wt0 rfl) rfl fun A28 c29 S30 a_56 w' HE57 HH58 => hK55 _ _ ?_
          refine pl_x HE57 HH58 (wt0 rfl) (x_assign rfl) rfl rfl fun a_59 HE60 => ?_
          refine wpList_nil ?_
          clear a_39 HE40 a_41 HE42 a_43 HE44 a_45 HE46 a_47 HE48 HH26 K_49 hK50 a_51 HE52 HH53 a_56 HE57 hK55 K_54
          refine blk_n ?_
          refine nrm ?_
          refine rg ?_
          refine pl_x HE60 HH58 (wt0 rfl) (x_move rfl) rfl rfl fun a_61 HE62 => ?_
          refine pl_x HE62 HH58 (wt0 rfl) (x_quo rfl rfl (by omega) (by omega) (by omega)) rfl rfl fun a_63 HE64 => ?_
          refine pl_x HE64 HH58 (wt0 rfl) (x_assign rfl) rfl rfl fun a_65 HE66 => ?_
          refine wpList_nil ?_
          clear a_59 HE60 a_61 HE62 a_63 HE64
          have E31 : ((l ++ [(48 + ((u : Int) % 10))])) = (l ++ [(48 + ((u : Int) % 10))]) := by
            first | rfl | simp
          exact nrm ⟨0 + (u / 10), (by omega), u / 10, (l ++ [(48 + ((u : Int) % 10))]), A28, c29, S30, rfl, HE66.sub ⟨(by rw [E31]; rfl), (lkI rfl (by omega)), rfl, trivial⟩, ((HH58.sel [0] (by decide) rfl).to (by first | rfl | (rw [E31]; done) | (rw [E31]; rfl) | (simp only [E31]; done) | (simp only [E31]; rfl))), (by rw [p24_0, lowD_pos (by omega)]; simp), (by simp; omega)⟩
      · refine wp_exit ?_
        refine (thn_exit (thn_exit (blk_hit ?_)))
        refine nrm ?_
        refine wp_seq ?_
        refine wp_seq ?_
        refine rg ?_
        refine pl_x HE30 HH26 (wt0 rfl) (x_move rfl) rfl rfl fun a_67 HE68 => ?_
        refine pl_x HE68 HH26 (wt0 rfl) (x_lss rfl rfl) rfl rfl fun a_69 HE70 => ?_
        refine wpList_nil ?_
        clear a_29 HE30 a_67 HE68
        refine nrm ?_
        refine cnd_d HE70 rfl (fun hc32 => ?_) (fun hc32 => ?_)
        · exfalso; omega
        · refine wp_skip ?_
          refine nrm ?_
          refine wp_seq ?_
          refine rg ?_
          refine pl fun K_71 hK72 => ?_
          refine st_lit (m := 0) (cs := []) (e := 5) HE70 HH26 (run_lit ts_159 HE70 (vs := []) rfl rfl (by simp [Value.cells]) rfl (by decide)) (wt0 rfl) rfl rfl fun q33 a_73 w' HE74 HH75 => hK72 _ _ ?_
          refine pl_x HE74 HH75 (wt0 rfl) (x_assign rfl) rfl rfl fun a_76 HE77 => ?_
          refine wpList_nil ?_
          clear a_69 HE70 HH26 a_73 HE74 hK72 K_71
          refine nrm ?_
          refine wp_seq ?_
          refine wp_seq ?_
          refine rg ?_
          refine pl_x HE77 HH75 (wt0 rfl) (x_move rfl) rfl rfl fun a_78 HE79 => ?_
          refine pl_x HE79 HH75 (wt0 rfl) (x_len Tryd.underlying159 rfl) rfl rfl fun a_80 HE81 => ?_
          refine pl_x HE81 HH75 (wt0 rfl) (x_sub rfl rfl (by exact ⟨by omega, by omega⟩)) rfl rfl fun a_82 HE83 => ?_
          refine pl_x HE83 HH75 (wt0 rfl) (x_assign rfl) rfl rfl fun a_84 HE85 => ?_
          refine wpList_nil ?_
          clear a_76 HE77 a_78 HE79 a_80 HE81 a_82 HE83
          refine nrm ?_
          refine wp_block ?_
          have HH86 := Held.vecFlat (E := eByte) (xs := []) (css := []) HH75 rfl (Nat.zero_le _) (fun i x hx => by simp at hx)
          have HH87 := HH86.sel [1, 0] (by decide) rfl
          have HH88 := HH87.vecSo
          refine lp (fun m a w' => ∃ (k : Nat) (A_6 : Option Addr) (c_6 : Nat) (S_6 : Nat → Prop), m = 0 + k ∧ Env 50 [(6, .slice A_6 (List.length ((l.drop k).reverse)) c_6), (7, .int .i64 ((k : Int) - 1)), (3, .slice A_3 ((List.length l)) c_3)] a ∧ Held Nob w [rVec eByte 5 S_6 A_6 c_6 ((l.drop k).reverse), rSo eByte S_3 A_3 c_3 l] w' ∧ (k ≤ l.length)) (0 + (l.length)) ?_ ?_
          · have E34 : (l.drop (l.length)).reverse = ([] : List Int) := by
              simp
            exact ⟨l.length, (some ⟨q33, 0, none⟩), (List.length (α := Int) []), (fun b => b = q33), rfl, HE85.sub ⟨(by rw [E34]; rfl), (lkI rfl (by first | rfl | omega | (simp [hc21, p24_0, p24_1, hc25, hc32]; done))), rfl, trivial⟩, ((HH88.sel [1, 0] (by decide) rfl).to (by first | rfl | (rw [E34]; done) | (rw [E34]; rfl) | (simp only [E34]; done) | (simp only [E34]; rfl))), (by first | omega | assumption | (simp; done) | simp_all)⟩
          · rintro m a_89 w' ⟨k, A_6, c_6, S_6, rfl, HE90, HH91, p35_0⟩
            have ol : (l.drop k).reverse.length ≤ l.length := by simp
            refine wp_seq ?_
            refine wp_seq ?_
            refine rg ?_
            refine pl_x HE90 HH91 (wt0 rfl) (x_move rfl) rfl rfl fun a_92 HE93 => ?_
            refine pl_x HE93 HH91 (wt0 rfl) (x_geq rfl rfl) rfl rfl fun a_94 HE95 => ?_
            refine wpList_nil ?_
            clear HH75 HH86 HH87 a_84 HE85 HH88 a_89 HE90 a_92 HE93
            refine nrm ?_
            refine cnd_d HE95 rfl (fun hc36 => ?_) (fun hc36 => ?_)
            · refine wp_skip ?_
              refine nrm ?_
              refine wp_seq ?_
              refine wp_block ?_
              refine rg ?_
              refine pl_x HE95 HH91 (wt0 rfl) (x_move rfl) rfl rfl fun a_96 HE97 => ?_
              refine pl_x HE97 HH91 (wt0 rfl) (x_move rfl) rfl rfl fun a_98 HE99 => ?_
              refine pl_x HE99 HH91 (wt0 rfl) (x_move rfl) rfl rfl fun a_100 HE101 => ?_
              have ke37 : (k - 1) < (List.length l) := by omega
              obtain ⟨be37, fe37, rfl⟩ := el_own HH91 (i := 1) rfl ke37
              refine pl_x HE101 HH91 (wt0 rfl) (x_indexAddr ts_159 rfl rfl rfl (by omega) ke37) rfl rfl fun a_102 HE103 => ?_
              obtain ⟨y38, xy38⟩ : ∃ y_, y_ = l[(k - 1)]'(by first | exact ke37 | (simp only [List.length_set]; exact ke37) | omega | (simp only [List.length_set]; omega) | (simp; omega)) := ⟨_, rfl⟩
              have jy38 : 0 ≤ y38 ∧ y38 ≤ 255 := by rw [xy38]; exact i_ownY HH91 1 rfl _
              refine pl_x HE103 HH91 (wt0 rfl) (x_load1 tv_5 rfl (c_ownY 1 rfl (by first | exact ke37 | (simp only [List.length_set]; exact ke37) | omega | (simp only [List.length_set]; omega) | (simp; omega)) xy38.symm)) rfl rfl fun a_104 HE105 => ?_
              refine pl fun K_106 hK107 => ?_
              refine st_lit (m := 1) (cs := [.int .u8 (y38)]) (e := 5) HE105 HH91 (run_lit ts_159 HE105 (vs := [.int .u8 (y38)]) rfl rfl (by simp [Value.cells]) rfl (by decide)) (wt0 rfl) rfl rfl fun q39 a_108 w' HE109 HH110 => hK107 _ _ ?_
              refine pl fun K_111 hK112 => ?_
              refine st_app1F y38 HE109 HH110 ts_159 [1, 0, 2] (by decide) rfl (fun _ => (oY (by constructor <;> omega))) rfl rfl (by simp [Value.oneCell']) (by unfold maxLen; first | omega | (simp; done) | (simp; omega)) (by first | omega | (simp; done) | (simp; omega)) (wt0 rfl) rfl fun A40 c41 S42 a_113 w' HE114 HH115 => hK112 _ _ ?_
              refine pl_x HE114 HH115 (wt0 rfl) (x_assign rfl) rfl rfl fun a_116 HE117 => ?_
              refine wpList_nil ?_
              clear a_94 HE95 a_96 HE97 a_98 HE99 a_100 HE101 a_102 HE103 a_104 HE105 HH91 K_106 hK107 a_108 HE109 HH110 a_113 HE114 hK112 K_111
              refine blk_n ?_
              refine nrm ?_
              refine rg ?_
              refine pl_x HE117 HH115 (wt0 rfl) (x_move rfl) rfl rfl fun a_118 HE119 => ?_
              refine pl_x HE119 HH115 (wt0 rfl) (x_sub rfl rfl (by exact ⟨by omega, by omega⟩)) rfl rfl fun a_120 HE121 => ?_
              refine pl_x HE121 HH115 (wt0 rfl) (x_assign rfl) rfl rfl fun a_122 HE123 => ?_
              refine wpList_nil ?_
              clear a_116 HE117 a_118 HE119 a_120 HE121
              have E43 : (l.drop ((k - 1))).reverse = ((l.drop k).reverse ++ [y38]) := by
                rw [drop_revI (by omega) (by omega), ← xy38]
              exact nrm ⟨0 + ((k - 1)), (by omega), (k - 1), A40, c41, S42, rfl, HE123.sub ⟨(by rw [E43]; rfl), (lkI rfl (by omega)), rfl, trivial⟩, ((HH115.sel [0, 1] (by decide) rfl).to (by first | rfl | (rw [E43]; done) | (rw [E43]; rfl) | (simp only [E43]; done) | (simp only [E43]; rfl))), (by first | omega | assumption | (simp; done) | simp_all)⟩
            · refine wp_exit ?_
              refine (thn_exit (thn_exit (blk_hit ?_)))
              refine nrm ?_
              refine wp_seq ?_
              refine rg ?_
              refine pl_x HE95 HH91 (wt0 rfl) (x_move rfl) rfl rfl fun a_124 HE125 => ?_
              refine pl_x HE125 HH91 (wt0 rfl) (x_bytes (xs := (l.drop k).reverse) Tryd.underlying159 Tryd.underlying5 Tryd.underlying9 rfl (fun _ h_ => (h_.vecSl (i := 0) rfl))) rfl rfl fun a_126 HE127 => ?_
              refine pl_x HE127 HH91 (wt0 rfl) (x_assign rfl) rfl rfl fun a_128 HE129 => ?_
              refine wpList_nil ?_
              clear a_94 HE95 a_124 HE125 a_126 HE127
              refine nrm ?_
              refine wp_ret ?_
              refine ret1 HE129 rfl (rv_tmp rfl) ?_
              have hF : (Go.Lib.itoa a0) = (Go.Lib.bytesOf ((l.drop k).reverse)) := by
                first | (rw [show a0 = 0 from by omega]; simp [Go.Lib.itoa, Go.Lib.decDigits]; done) | (rw [itoa_low (by omega), ‹lowD a0.toNat = _›, show u = 0 from by omega, lowD_zero, List.append_nil, show k = 0 from by omega, List.drop_zero])
              exact ⟨by first | (rw [hF] <;> rfl) | rfl | (rw [hF]; simp only [Ending.returned.injEq, Value.slice.injEq, true_and, and_true]; first | omega | (simp; done)) | (rw [hF]; simp; omega), HH91.below⟩

def fracT (f : tFraction) : List UInt8 := Go.Lib.itoa f.1 ++ [47] ++ Go.Lib.itoa f.2

def fracsT (l : List tFraction) : List UInt8 := Go.Lib.join (l.map fracT) [32]

def fracsText (l : List tFraction) : List UInt8 := if validFrac l = true then fracsT l else []

theorem fracs_len {l : List tFraction} (h : ∀ x ∈ l, (1 ≤ x.1 ∧ x.1 ≤ 999999) ∧ 1 ≤ x.2 ∧ x.2 ≤ 999999) (k : Nat) : (Go.Lib.join ((l.take k).map fracT) [32]).length ≤ 50 * l.length := by
  refine join_take_len (fun x hx => ?_) k
  have h1 := h x hx
  have h2 := itoa_len (n := x.1) (by omega)
  have h3 := itoa_len (n := x.2) (by omega)
  simp only [fracT, List.length_append, List.length_cons, List.length_nil]
  omega

set_option maxRecDepth 100000 in
set_option maxHeartbeats 4000000 in
theorem impl_FractionsText (A0 : Option Addr) (c0 : Nat) (a0 : (List tFraction)) (w : World) (h0 : Sl eFraction w (Old w) A0 c0 a0) (hG : Glob w) :
    Calls Tryd.prog 17 #[.slice A0 a0.length c0] w fun e w' => e = .returned (.string (bs (fracsText a0))) ∧ Below w.heap.size w w' := by
  have l0 := h0.len
  have HH1 := Held.start Nob w
  refine enter (n := 30) Tryd.func17 rfl rfl rfl fun a_2 HE3 => ?_
  refine wp_seq ?_
  refine rg ?_
  refine pl_x HE3 HH1 (wt0 rfl) (x_assign rfl) rfl rfl fun a_4 HE5 => ?_
  refine wpList_nil ?_
  clear a_2 HE3
  refine nrm ?_
  refine wp_seq ?_
  refine wp_seq ?_
  refine rg ?_
  refine pl_x HE5 HH1 (wt0 rfl) (x_move rfl) rfl rfl fun a_6 HE7 => ?_
  refine pl fun K_8 hK9 => ?_
  refine st_call HE7 (wt0 rfl) rfl rfl rfl en_59 rfl rfl (impl_ValidFractions _ _ a0 _ (HH1.old h0)) fun e w' hr => ?_
  obtain ⟨rfl, hbr21⟩ := hr
  have HH10 := HH1.on hbr21
  refine ⟨_, rfl, fun a_11 HE12 => hK9 _ _ ?_⟩
  refine pl_x HE12 HH10 (wt0 rfl) (x_not rfl) rfl rfl fun a_13 HE14 => ?_
  refine wpList_nil ?_
  clear a_4 HE5 HH1 a_6 HE7 a_11 HE12 hK9 K_8
  refine nrm ?_
  refine cnd_nb HE14 rfl (fun hc22 => ?_) (fun hc22 => ?_)
  · refine wp_seq ?_
    refine rg ?_
    refine pl_x HE14 HH10 (wt0 rfl) (x_assign rfl) rfl rfl fun a_15 HE16 => ?_
    refine wpList_nil ?_
    clear a_13 HE14
    refine nrm ?_
    refine wp_ret ?_
    refine (thn_ret ?_)
    refine ret1 HE16 rfl (rv_tmp rfl) ?_
    have hF : (fracsText a0) = [] := by
      unfold fracsText; first | (rw [if_neg (by simp [hc22])]; done) | (rw [if_pos ‹_›]; unfold fracsT; rw [List.take_of_length_le (by omega)])
    exact ⟨by first | (rw [hF] <;> rfl) | rfl | (rw [hF]; simp only [Ending.returned.injEq, Value.slice.injEq, true_and, and_true]; first | omega | (simp; done)) | (rw [hF]; simp; omega), HH10.below⟩
  · have hV := validFrac_facts hc22
    refine wp_skip ?_
    refine nrm ?_
    refine wp_seq ?_
    refine rg ?_
    refine pl fun K_17 hK18 => ?_
    refine st_lit (m := 0) (cs := []) (e := 9) HE14 HH10 (run_lit ts_106 HE14 (vs := []) rfl rfl (by simp [Value.cells]) rfl (by decide)) (wt0 rfl) rfl rfl fun q23 a_19 w' HE20 HH21 => hK18 _ _ ?_
    refine pl_x HE20 HH21 (wt0 rfl) (x_assign rfl) rfl rfl fun a_22 HE23 => ?_
    refine wpList_nil ?_
    clear a_13 HE14 HH10 a_19 HE20 hK18 K_17
    refine nrm ?_
    refine wp_seq ?_
    refine wp_seq ?_
    refine rg ?_
    refine pl_x HE23 HH21 (wt0 rfl) (x_move rfl) rfl rfl fun a_24 HE25 => ?_
    refine pl_x HE25 HH21 (wt0 rfl) (x_len Tryd.underlying31 rfl) rfl rfl fun a_26 HE27 => ?_
    refine pl_x HE27 HH21 (wt0 rfl) (x_move rfl) rfl rfl fun a_28 HE29 => ?_
    refine wpList_nil ?_
    clear a_22 HE23 a_24 HE25 a_26 HE27
    refine nrm ?_
    refine wp_block ?_
    have HH30 := Held.vecFlat (E := eTxt) (xs := []) (css := []) HH21 rfl (Nat.zero_le _) (fun i x hx => by simp at hx)
    refine lp (fun m a w' => ∃ (k : Nat) (A_3 : Option Addr) (c_3 : Nat) (S_3 : Nat → Prop), m = a0.length - k ∧ Env 30 [(3, .slice A_3 (List.length ((a0.take k).map fracT)) c_3), (12, .int .i64 (k : Int)), (10, .slice A0 (a0.length) c0), (11, .int .i64 ((a0.length : Int)))] a ∧ Held Nob w [rVec eTxt 9 S_3 A_3 c_3 ((a0.take k).map fracT)] w' ∧ (k ≤ a0.length)) (a0.length - (0)) ?_ ?_
    · have E24 : (a0.take 0).map fracT = ([] : List (List UInt8)) := by
        first | rfl | simp
      exact ⟨0, (some ⟨q23, 0, none⟩), (List.length (α := (List UInt8)) []), (fun b => b = q23), rfl, HE29.sub ⟨(by rw [E24]; rfl), (lkI rfl (by first | rfl | omega | (simp [hc22]; done))), rfl, rfl, trivial⟩, ((HH30.sel [0] (by decide) rfl).to (by first | rfl | (rw [E24]; done) | (rw [E24]; rfl) | (simp only [E24]; done) | (simp only [E24]; rfl))), (by first | omega | assumption | (simp; done) | simp_all)⟩
    · rintro m a_31 w' ⟨k, A_3, c_3, S_3, rfl, HE32, HH33, p25_0⟩
      have ol : ((a0.take k).map fracT).length ≤ 100 := by rw [List.length_map, List.length_take]; omega
      have oj := fracs_len hV.2 k
      refine wp_seq ?_
      refine rg ?_
      refine pl_x HE32 HH33 (wt0 rfl) (x_lss rfl rfl) rfl rfl fun a_34 HE35 => ?_
      refine wpList_nil ?_
      clear HH21 a_28 HE29 HH30 a_31 HE32
      refine nrm ?_
      refine wp_seq ?_
      refine cnd_d HE35 rfl (fun hc26 => ?_) (fun hc26 => ?_)
      · refine wp_skip ?_
        refine nrm ?_
        refine wp_seq ?_
        refine wp_block ?_
        refine wp_seq ?_
        refine rg ?_
        have ke27 : k < a0.length := by omega
        obtain ⟨be27, fe27, ese27, Ae27, Re27, De27⟩ := el_old h0 ke27
        obtain ⟨e27, xe27⟩ : ∃ x_, x_ = a0[k] := ⟨_, rfl⟩
        rw [← xe27] at Re27
        have Qe27 := Re27
        obtain ⟨rfl, ge27_0, ge27_1⟩ := shape_Fraction Re27
        have je27_0 := ge27_0; unfold I64 at je27_0
        have je27_1 := ge27_1; unfold I64 at je27_1
        have fe27 := hV.2 e27 (by rw [xe27]; exact List.getElem_mem _)
        refine pl_x HE35 HH33 (wt0 rfl) (x_indexAddr ts_31 rfl rfl Ae27 rfl ke27) rfl rfl fun a_36 HE37 => ?_
        refine pl_x HE37 HH33 (wt0 rfl) (x_loadN (cs := [.int .i64 (e27.1), .int .i64 (e27.2)]) tv_103 rfl rfl (c_oldN De27)) rfl rfl fun a_38 HE39 => ?_
        refine pl fun K_40 hK41 => ?_
        refine st_alloc HE39 HH33 tv_103 (wt0 rfl) rfl fun q28 a_42 w' HE43 HH44 => hK41 _ _ ?_
        refine pl fun K_45 hK46 => ?_
        refine st_store (vs := [.int .i64 (e27.1), .int .i64 (e27.2)]) 0 HE43 HH44 tv_103 rfl rfl rfl rfl rfl rfl (by simp [Value.oneCell']) (wt0 rfl) fun w' HH47 => hK46 _ _ ?_
        refine wpList_nil ?_
        clear a_34 HE35 a_36 HE37 a_38 HE39 HH33 K_40 hK41 HH44 hK46 K_45
        refine nrm ?_
        refine dr_start (Held Nob w [rBlk q28 103 [.int .i64 (e27.1), .int .i64 (e27.2)]]) 12 #[false, false, false, false, false, false, false, false, false, false, false, false] hmix rfl rfl HH47 (fun _ h => h.sel [0] (by decide) rfl) fun w' HH48 => ?_
        have HS49 := HH48.sel [0] (by decide) rfl
        refine dr_take (i := 0) (ls' := #[true, false, false, false, false, false, false, false, false, false, false, false]) HE43 HS49 rfl (by kernel_rfl) (by kernel_rfl) (by kernel_rfl) (fun _ _ _ h => h) rfl (wt0 rfl) (x_move rfl) rfl rfl fun a_50 HE51 => ?_
        refine dr_take (i := 1) (ls' := #[true, true, false, false, false, false, false, false, false, false, false, false]) HE51 HS49 rfl (by kernel_rfl) (by kernel_rfl) (by kernel_rfl) (fun _ _ _ h => h) rfl (wt0 rfl) (x_fieldAddr fa_103_0 rfl) rfl rfl fun a_52 HE53 => ?_
        refine dr_take (i := 2) (ls' := #[true, true, true, false, false, false, false, false, false, false, false, false]) HE53 HS49 rfl (by kernel_rfl) (by kernel_rfl) (by kernel_rfl) (fun _ _ _ h => h) rfl (wt0 rfl) (x_load1 tv_2 rfl (c_blk 0 rfl rfl)) rfl rfl fun a_54 HE55 => ?_
        refine dr_take (i := 5) (ls' := #[true, true, true, false, false, true, false, false, false, false, false, false]) HE55 HS49 rfl (by kernel_rfl) (by kernel_rfl) (by kernel_rfl) (fun _ _ _ h => h) rfl (wt0 rfl) (x_fieldAddr fa_103_1 rfl) rfl rfl fun a_56 HE57 => ?_
        refine dr_take (i := 6) (ls' := #[true, true, true, false, false, true, true, false, false, false, false, false]) HE57 HS49 rfl (by kernel_rfl) (by kernel_rfl) (by kernel_rfl) (fun _ _ _ h => h) rfl (wt0 rfl) (x_load1 tv_2 rfl (c_blk 0 rfl rfl)) rfl rfl fun a_58 HE59 => ?_
        refine dr_one (i := 3) (ls' := #[true, true, true, true, false, true, true, false, false, false, false, false]) rfl (by kernel_rfl) rfl fun K_60 hK61 => ?_
        refine st_call HE59 (wt0 rfl) rfl rfl rfl en_60 rfl rfl (impl_Decimal e27.1 _ (HH48.glob hG) (by omega)) fun e w' hr => ?_
        have hAr29_0 := itoa_len (n := e27.1) (by omega)
        obtain ⟨rfl, hbr29⟩ := hr
        have HH62 := HH48.on hbr29
        refine ⟨_, rfl, fun a_63 HE64 => hK61 _ _ (by exact HH62.sel [0] (by decide) rfl) ?_⟩
        have HS65 := HH62.sel [0] (by decide) rfl
        refine dr_take (i := 4) (ls' := #[true, true, true, true, true, true, true, false, false, false, false, false]) HE64 HS65 rfl (by kernel_rfl) (by kernel_rfl) (by kernel_rfl) (fun _ _ _ h => h) rfl (wt0 rfl) (x_sadd rfl rfl (by first | omega | (simp only [List.length_append, List.length_cons, List.length_nil]; omega) | (simp; omega))) rfl rfl fun a_66 HE67 => ?_
        refine dr_one (i := 7) (ls' := #[true, true, true, true, true, true, true, true, false, false, false, false]) rfl (by kernel_rfl) rfl fun K_68 hK69 => ?_
        refine st_call HE67 (wt0 rfl) rfl rfl rfl en_60 rfl rfl (impl_Decimal e27.2 _ (HH62.glob hG) (by omega)) fun e w' hr => ?_
        have hAr30_0 := itoa_len (n := e27.2) (by omega)
        obtain ⟨rfl, hbr30⟩ := hr
        have HH70 := HH62.on hbr30
        refine ⟨_, rfl, fun a_71 HE72 => hK69 _ _ (by exact HH70.sel [0] (by decide) rfl) ?_⟩
        have HS73 := HH70.sel [0] (by decide) rfl
        refine dr_take (i := 8) (ls' := #[true, true, true, true, true, true, true, true, true, false, false, false]) HE72 HS73 rfl (by kernel_rfl) (by kernel_rfl) (by kernel_rfl) (fun _ _ _ h => h) rfl (wt0 rfl) (x_sadd rfl rfl (by first | omega | (simp only [List.length_append, List.length_cons, List.length_nil]; omega) | (simp; omega))) rfl rfl fun a_74 HE75 => ?_
        refine dr_one (i := 9) (ls' := #[true, true, true, true, true, true, true, true, true, true, false, false]) rfl (by kernel_rfl) rfl fun K_76 hK77 => ?_
        refine st_lit (m := 1) (cs := [.string (bs (((Go.Lib.itoa e27.1) ++ [47]) ++ (Go.Lib.itoa e27.2)))]) (e := 9) HE75 HH70 (run_lit ts_106 HE75 (vs := [.string (bs (((Go.Lib.itoa e27.1) ++ [47]) ++ (Go.Lib.itoa e27.2)))]) rfl rfl (by simp [Value.cells]) rfl (by decide)) (wt0 rfl) rfl rfl fun q31 a_78 w' HE79 HH80 => hK77 _ _ (by exact HH80.sel [1] (by decide) rfl) ?_
        have HS81 := HH80.sel [1] (by decide) rfl
        refine dr_one (i := 10) (ls' := #[true, true, true, true, true, true, true, true, true, true, true, false]) rfl (by kernel_rfl) rfl fun K_82 hK83 => ?_
        refine st_app1F (((Go.Lib.itoa e27.1) ++ [47]) ++ (Go.Lib.itoa e27.2)) HE79 HH80 ts_106 [2, 0, 1] (by decide) rfl (fun _ => (oS (by first | omega | (simp only [List.length_append, List.length_cons, List.length_nil]; omega) | (simp; omega)))) rfl rfl (by simp [Value.oneCell']) (by unfold maxLen; first | omega | (simp; done) | (simp; omega)) (by first | omega | (simp; done) | (simp; omega)) (wt0 rfl) rfl fun A32 c33 S34 a_84 w' HE85 HH86 => hK83 _ _ (by exact HH86.sel [1] (by decide) rfl) ?_
        have HS87 := HH86.sel [1] (by decide) rfl
        refine dr_take (i := 11) (ls' := #[true, true, true, true, true, true, true, true, true, true, true, true]) HE85 HS87 rfl (by kernel_rfl) (by kernel_rfl) (by kernel_rfl) (fun _ _ _ h => h) rfl (wt0 rfl) (x_assign rfl) rfl rfl fun a_88 HE89 => ?_
        refine dr_done (by kernel_rfl) ?_
        clear HH47 a_42 HE43 a_50 HE51 a_52 HE53 a_54 HE55 a_56 HE57 HH48 a_58 HE59 HS49 a_63 HE64 K_60 hK61 HH62 a_66 HE67 HS65 a_71 HE72 K_68 hK69 a_74 HE75 HH70 HS73 K_76 hK77 a_78 HE79 HH80 HS81 a_84 HE85 hK83 K_82
        refine blk_n ?_
        refine nrm ?_
        refine rg ?_
        refine pl_x HE89 HH86 (wt0 rfl) (x_add rfl rfl (by exact ⟨by omega, by omega⟩)) rfl rfl fun a_90 HE91 => ?_
        refine pl_x HE91 HH86 (wt0 rfl) (x_move rfl) rfl rfl fun a_92 HE93 => ?_
        refine wpList_nil ?_
        clear a_88 HE89 a_90 HE91
        have E35 : (a0.take (k + 1)).map fracT = ((a0.take k).map fracT ++ [(((Go.Lib.itoa e27.1) ++ [47]) ++ (Go.Lib.itoa e27.2))]) := by
          first | (rw [List.take_succ_eq_append_getElem (by omega), List.map_append, ← xe27]; rfl) | (rw [List.take_succ_eq_append_getElem (by omega), List.map_append, ← xe27]; simp [fracT, hc26])
        exact nrm ⟨a0.length - (k + 1), (by omega), k + 1, A32, c33, S34, rfl, HE93.sub ⟨(by rw [E35]; rfl), (lkI rfl (by first | rfl | omega | (simp [hc22, p25_0, hc26, xe27]; done))), rfl, rfl, trivial⟩, ((HH86.sel [0] (by decide) rfl).to (by first | rfl | (rw [E35]; done) | (rw [E35]; rfl) | (simp only [E35]; done) | (simp only [E35]; rfl))), (by first | omega | assumption | (simp; done) | simp_all)⟩
      · refine wp_exit ?_
        refine (thn_exit (thn_exit (blk_hit ?_)))
        refine nrm ?_
        refine wp_seq ?_
        refine rg ?_
        refine pl_x HE35 HH33 (wt0 rfl) (x_move rfl) rfl rfl fun a_94 HE95 => ?_
        refine pl fun K_96 hK97 => ?_
        refine st_call HE95 (wt0 rfl) rfl rfl rfl en_61 rfl rfl (Join_Str _ _ ((a0.take k).map fracT) ([32]) _ (HH33.vecSl (i := 0) rfl) (by omega) (by omega)) fun e w' hr => ?_
        obtain ⟨rfl, hbr36⟩ := hr
        have HH98 := HH33.on hbr36
        refine ⟨_, rfl, fun a_99 HE100 => hK97 _ _ ?_⟩
        refine pl_x HE100 HH98 (wt0 rfl) (x_assign rfl) rfl rfl fun a_101 HE102 => ?_
        refine wpList_nil ?_
        clear a_34 HE35 HH33 a_94 HE95 a_99 HE100 hK97 K_96
        refine nrm ?_
        refine wp_ret ?_
        refine ret1 HE102 rfl (rv_tmp rfl) ?_
        have hF : (fracsText a0) = (Go.Lib.join ((a0.take k).map fracT) ([32])) := by
          unfold fracsText; first | (rw [if_neg (by simp [hc22, p25_0, hc26])]; done) | (rw [if_pos ‹_›]; unfold fracsT; rw [List.take_of_length_le (by omega)])
        exact ⟨by first | (rw [hF] <;> rfl) | rfl | (rw [hF]; simp only [Ending.returned.injEq, Value.slice.injEq, true_and, and_true]; first | omega | (simp; done)) | (rw [hF]; simp; omega), HH98.below⟩

set_option maxRecDepth 100000 in
set_option maxHeartbeats 4000000 in
theorem spec_l08Fractions (A0 : Option Addr) (c0 : Nat) (a0 : (List tFraction)) (w : World) (h0 : Sl eFraction w (Old w) A0 c0 a0) (s0 : a0.length ≤ 100) (s1 : ∀ x ∈ a0, (1 ≤ x.1 ∧ x.1 ≤ 999999) ∧ 1 ≤ x.2 ∧ x.2 ≤ 999999) :
    Calls Tryd.prog 57 #[.slice A0 a0.length c0] w fun e w' => e = .returned (.string (bs (fracsT a0))) ∧ Below w.heap.size w w' := by
  have l0 := h0.len
  have HH1 := Held.start Nob w
  refine enter (n := 32) Tryd.func57 rfl rfl rfl fun a_2 HE3 => ?_
  refine wp_seq ?_
  refine rg ?_
  refine pl_x HE3 HH1 (wt0 rfl) (x_assign rfl) rfl rfl fun a_4 HE5 => ?_
  refine wpList_nil ?_
  clear a_2 HE3
  refine nrm ?_
  refine wp_seq ?_
  refine rg ?_
  refine pl_x HE5 HH1 (wt0 rfl) (x_assign rfl) rfl rfl fun a_6 HE7 => ?_
  refine wpList_nil ?_
  clear a_4 HE5
  refine nrm ?_
  refine wp_seq ?_
  refine wp_seq ?_
  refine rg ?_
  refine pl_x HE7 HH1 (wt0 rfl) (x_assign rfl) rfl rfl fun a_8 HE9 => ?_
  refine wpList_nil ?_
  clear a_6 HE7
  refine nrm ?_
  refine wp_block ?_
  refine lp (fun m a w' => ∃ (k : Nat), m = a0.length - k ∧ Env 32 [(3, .string (bs (Go.Lib.join ((a0.take k).map fracT) [32]))), (4, .int .i64 (k : Int)), (0, .slice A0 (a0.length) c0)] a ∧ Held Nob w [] w' ∧ (k ≤ a0.length)) (a0.length - (0)) ?_ ?_
  · exact ⟨0, rfl, HE9.sub ⟨(lkS rfl (by first | rfl | (simp []; done))), (lkI rfl (by first | rfl | omega | (simp []; done))), rfl, trivial⟩, (HH1.sel [] (by decide) rfl), (by first | omega | assumption | (simp; done) | simp_all)⟩
  · rintro m a_10 w' ⟨k, rfl, HE11, HH12, p21_0⟩
    have oj := fracs_len s1 k
    refine wp_seq ?_
    refine wp_seq ?_
    refine rg ?_
    refine pl_x HE11 HH12 (wt0 rfl) (x_move rfl) rfl rfl fun a_13 HE14 => ?_
    refine pl_x HE14 HH12 (wt0 rfl) (x_move rfl) rfl rfl fun a_15 HE16 => ?_
    refine pl_x HE16 HH12 (wt0 rfl) (x_len Tryd.underlying31 rfl) rfl rfl fun a_17 HE18 => ?_
    refine pl_x HE18 HH12 (wt0 rfl) (x_lss rfl rfl) rfl rfl fun a_19 HE20 => ?_
    refine wpList_nil ?_
    clear a_8 HE9 HH1 a_10 HE11 a_13 HE14 a_15 HE16 a_17 HE18
    refine nrm ?_
    refine cnd_d HE20 rfl (fun hc22 => ?_) (fun hc22 => ?_)
    · refine wp_skip ?_
      refine nrm ?_
      refine wp_seq ?_
      refine wp_block ?_
      refine wp_seq ?_
      refine wp_seq ?_
      refine rg ?_
      refine pl_x HE20 HH12 (wt0 rfl) (x_move rfl) rfl rfl fun a_21 HE22 => ?_
      refine pl_x HE22 HH12 (wt0 rfl) (x_gtr rfl rfl) rfl rfl fun a_23 HE24 => ?_
      refine wpList_nil ?_
      clear a_19 HE20 a_21 HE22
      refine nrm ?_
      refine cnd_d HE24 rfl (fun hc23 => ?_) (fun hc23 => ?_)
      · refine rg ?_
        refine pl_x HE24 HH12 (wt0 rfl) (x_move rfl) rfl rfl fun a_25 HE26 => ?_
        refine pl_x HE26 HH12 (wt0 rfl) (x_sadd rfl rfl (by first | omega | (simp only [List.length_append, List.length_cons, List.length_nil]; omega) | (simp; omega))) rfl rfl fun a_27 HE28 => ?_
        refine pl_x HE28 HH12 (wt0 rfl) (x_assign rfl) rfl rfl fun a_29 HE30 => ?_
        refine wpList_nil ?_
        clear a_23 HE24 a_25 HE26 a_27 HE28
        refine nrm ?_
        refine dr_start (Held Nob w []) 17 #[false, false, false, false, false, false, false, false, false, false, false, false, false, false, false, false, false] hmix rfl rfl HH12 (fun _ h => h.sel [] (by decide) rfl) fun w' HH31 => ?_
        have HS32 := HH31
        refine dr_take (i := 0) (ls' := #[true, false, false, false, false, false, false, false, false, false, false, false, false, false, false, false, false]) HE30 HS32 rfl (by kernel_rfl) (by kernel_rfl) (by kernel_rfl) (fun _ _ _ h => h) rfl (wt0 rfl) (x_move rfl) rfl rfl fun a_33 HE34 => ?_
        refine dr_take (i := 1) (ls' := #[true, true, false, false, false, false, false, false, false, false, false, false, false, false, false, false, false]) HE34 HS32 rfl (by kernel_rfl) (by kernel_rfl) (by kernel_rfl) (fun _ _ _ h => h) rfl (wt0 rfl) (x_move rfl) rfl rfl fun a_35 HE36 => ?_
        refine dr_take (i := 2) (ls' := #[true, true, true, false, false, false, false, false, false, false, false, false, false, false, false, false, false]) HE36 HS32 rfl (by kernel_rfl) (by kernel_rfl) (by kernel_rfl) (fun _ _ _ h => h) rfl (wt0 rfl) (x_move rfl) rfl rfl fun a_37 HE38 => ?_
        have ke24 : k < a0.length := by omega
        obtain ⟨be24, fe24, ese24, Ae24, Re24, De24⟩ := el_old h0 ke24
        obtain ⟨e24, xe24⟩ : ∃ x_, x_ = a0[k] := ⟨_, rfl⟩
        rw [← xe24] at Re24
        have Qe24 := Re24
        obtain ⟨rfl, ge24_0, ge24_1⟩ := shape_Fraction Re24
        have je24_0 := ge24_0; unfold I64 at je24_0
        have je24_1 := ge24_1; unfold I64 at je24_1
        have fe24 := s1 e24 (by rw [xe24]; exact List.getElem_mem _)
        refine dr_take (i := 3) (ls' := #[true, true, true, true, false, false, false, false, false, false, false, false, false, false, false, false, false]) HE38 HS32 rfl (by kernel_rfl) (by kernel_rfl) (by kernel_rfl) (fun _ _ _ h => h) rfl (wt0 rfl) (x_indexAddr ts_31 rfl rfl Ae24 rfl ke24) rfl rfl fun a_39 HE40 => ?_
        refine dr_take (i := 4) (ls' := #[true, true, true, true, true, false, false, false, false, false, false, false, false, false, false, false, false]) HE40 HS32 rfl (by kernel_rfl) (by kernel_rfl) (by kernel_rfl) (fun _ _ _ h => h) rfl (wt0 rfl) (x_fieldAddr fa_103_0 rfl) rfl rfl fun a_41 HE42 => ?_
        refine dr_take (i := 5) (ls' := #[true, true, true, true, true, true, false, false, false, false, false, false, false, false, false, false, false]) HE42 HS32 rfl (by kernel_rfl) (by kernel_rfl) (by kernel_rfl) (fun _ _ _ h => h) rfl (wt0 rfl) (x_load1 tv_2 rfl (c_old (De24 0 _ rfl))) rfl rfl fun a_43 HE44 => ?_
        refine dr_take (i := 8) (ls' := #[true, true, true, true, true, true, false, false, true, false, false, false, false, false, false, false, false]) HE44 HS32 rfl (by kernel_rfl) (by kernel_rfl) (by kernel_rfl) (fun _ _ _ h => h) rfl (wt0 rfl) (x_move rfl) rfl rfl fun a_45 HE46 => ?_
        refine dr_take (i := 9) (ls' := #[true, true, true, true, true, true, false, false, true, true, false, false, false, false, false, false, false]) HE46 HS32 rfl (by kernel_rfl) (by kernel_rfl) (by kernel_rfl) (fun _ _ _ h => h) rfl (wt0 rfl) (x_move rfl) rfl rfl fun a_47 HE48 => ?_
        refine dr_take (i := 10) (ls' := #[true, true, true, true, true, true, false, false, true, true, true, false, false, false, false, false, false]) HE48 HS32 rfl (by kernel_rfl) (by kernel_rfl) (by kernel_rfl) (fun _ _ _ h => h) rfl (wt0 rfl) (x_indexAddr ts_31 rfl rfl Ae24 rfl ke24) rfl rfl fun a_49 HE50 => ?_
        refine dr_take (i := 11) (ls' := #[true, true, true, true, true, true, false, false, true, true, true, true, false, false, false, false, false]) HE50 HS32 rfl (by kernel_rfl) (by kernel_rfl) (by kernel_rfl) (fun _ _ _ h => h) rfl (wt0 rfl) (x_fieldAddr fa_103_1 rfl) rfl rfl fun a_51 HE52 => ?_
        refine dr_take (i := 12) (ls' := #[true, true, true, true, true, true, false, false, true, true, true, true, true, false, false, false, false]) HE52 HS32 rfl (by kernel_rfl) (by kernel_rfl) (by kernel_rfl) (fun _ _ _ h => h) rfl (wt0 rfl) (x_load1 tv_2 rfl (c_old (De24 1 _ rfl))) rfl rfl fun a_53 HE54 => ?_
        refine dr_one (i := 6) (ls' := #[true, true, true, true, true, true, true, false, true, true, true, true, true, false, false, false, false]) rfl (by kernel_rfl) rfl fun K_55 hK56 => ?_
        refine st_call HE54 (wt0 rfl) rfl rfl rfl en_103 rfl rfl (spec_l01Dec e24.1 _ (by omega)) fun e w' hr => ?_
        have hAr25_0 := itoa_len (n := e24.1) (by omega)
        obtain ⟨rfl, hbr25⟩ := hr
        have HH57 := HH31.on hbr25
        refine ⟨_, rfl, fun a_58 HE59 => hK56 _ _ (by exact HH57.sel [] (by decide) rfl) ?_⟩
        have HS60 := HH57.sel [] (by decide) rfl
        refine dr_take (i := 7) (ls' := #[true, true, true, true, true, true, true, true, true, true, true, true, true, false, false, false, false]) HE59 HS60 rfl (by kernel_rfl) (by kernel_rfl) (by kernel_rfl) (fun _ _ _ h => h) rfl (wt0 rfl) (x_sadd rfl rfl (by first | omega | (simp only [List.length_append, List.length_cons, List.length_nil]; omega) | (simp; omega))) rfl rfl fun a_61 HE62 => ?_
        refine dr_one (i := 13) (ls' := #[true, true, true, true, true, true, true, true, true, true, true, true, true, true, false, false, false]) rfl (by kernel_rfl) rfl fun K_63 hK64 => ?_
        refine st_call HE62 (wt0 rfl) rfl rfl rfl en_103 rfl rfl (spec_l01Dec e24.2 _ (by omega)) fun e w' hr => ?_
        have hAr26_0 := itoa_len (n := e24.2) (by omega)
        obtain ⟨rfl, hbr26⟩ := hr
        have HH65 := HH57.on hbr26
        refine ⟨_, rfl, fun a_66 HE67 => hK64 _ _ (by exact HH65.sel [] (by decide) rfl) ?_⟩
        have HS68 := HH65.sel [] (by decide) rfl
        refine dr_take (i := 14) (ls' := #[true, true, true, true, true, true, true, true, true, true, true, true, true, true, true, false, false]) HE67 HS68 rfl (by kernel_rfl) (by kernel_rfl) (by kernel_rfl) (fun _ _ _ h => h) rfl (wt0 rfl) (x_sadd rfl rfl (by first | omega | (simp only [List.length_append, List.length_cons, List.length_nil]; omega) | (simp; omega))) rfl rfl fun a_69 HE70 => ?_
        refine dr_take (i := 15) (ls' := #[true, true, true, true, true, true, true, true, true, true, true, true, true, true, true, true, false]) HE70 HS68 rfl (by kernel_rfl) (by kernel_rfl) (by kernel_rfl) (fun _ _ _ h => h) rfl (wt0 rfl) (x_sadd rfl rfl (by first | omega | (simp only [List.length_append, List.length_cons, List.length_nil]; omega) | (simp; omega))) rfl rfl fun a_71 HE72 => ?_
        refine dr_take (i := 16) (ls' := #[true, true, true, true, true, true, true, true, true, true, true, true, true, true, true, true, true]) HE72 HS68 rfl (by kernel_rfl) (by kernel_rfl) (by kernel_rfl) (fun _ _ _ h => h) rfl (wt0 rfl) (x_assign rfl) rfl rfl fun a_73 HE74 => ?_
        refine dr_done (by kernel_rfl) ?_
        clear HH12 a_29 HE30 a_33 HE34 a_35 HE36 a_37 HE38 a_39 HE40 a_41 HE42 a_43 HE44 a_45 HE46 a_47 HE48 a_49 HE50 a_51 HE52 HH31 a_53 HE54 HS32 a_58 HE59 K_55 hK56 HH57 a_61 HE62 HS60 a_66 HE67 a_69 HE70 a_71 HE72 hK64 K_63
        refine blk_n ?_
        refine nrm ?_
        refine rg ?_
        refine pl_x HE74 HH65 (wt0 rfl) (x_move rfl) rfl rfl fun a_75 HE76 => ?_
        refine pl_x HE76 HH65 (wt0 rfl) (x_add rfl rfl (by exact ⟨by omega, by omega⟩)) rfl rfl fun a_77 HE78 => ?_
        refine pl_x HE78 HH65 (wt0 rfl) (x_assign rfl) rfl rfl fun a_79 HE80 => ?_
        refine wpList_nil ?_
        clear a_73 HE74 a_75 HE76 a_77 HE78
        exact nrm ⟨a0.length - (k + 1), (by omega), k + 1, rfl, HE80.sub ⟨(lkS rfl (by first | (rw [join_step0 _ _ (by omega) (by omega), ← xe24]; done) | (rw [join_step1 _ _ (by omega) (by omega), ← xe24]; done) | (rw [join_step0 _ _ (by omega) (by omega), ← xe24]; rfl) | (rw [join_step1 _ _ (by omega) (by omega), ← xe24]; rfl) | (rw [join_step0 _ _ (by omega) (by omega), ← xe24]; simp [fracT, hc23]; done) | (rw [join_step1 _ _ (by omega) (by omega), ← xe24]; simp [fracT, hc23]; done))), (lkI rfl (by first | rfl | omega | (simp [p21_0, hc22, hc23, xe24]; done))), rfl, trivial⟩, (HH65.sel [] (by decide) rfl), (by first | omega | assumption | (simp; done) | simp_all)⟩
      · refine wp_skip ?_
        refine nrm ?_
        refine dr_start (Held Nob w []) 17 #[false, false, false, false, false, false, false, false, false, false, false, false, false, false, false, false, false] hmix rfl rfl HH12 (fun _ h => h.sel [] (by decide) rfl) fun w' HH81 => ?_
        have HS82 := HH81
        refine dr_take (i := 0) (ls' := #[true, false, false, false, false, false, false, false, false, false, false, false, false, false, false, false, false]) HE24 HS82 rfl (by kernel_rfl) (by kernel_rfl) (by kernel_rfl) (fun _ _ _ h => h) rfl (wt0 rfl) (x_move rfl) rfl rfl fun a_83 HE84 => ?_
        refine dr_take (i := 1) (ls' := #[true, true, false, false, false, false, false, false, false, false, false, false, false, false, false, false, false]) HE84 HS82 rfl (by kernel_rfl) (by kernel_rfl) (by kernel_rfl) (fun _ _ _ h => h) rfl (wt0 rfl) (x_move rfl) rfl rfl fun a_85 HE86 => ?_
        refine dr_take (i := 2) (ls' := #[true, true, true, false, false, false, false, false, false, false, false, false, false, false, false, false, false]) HE86 HS82 rfl (by kernel_rfl) (by kernel_rfl) (by kernel_rfl) (fun _ _ _ h => h) rfl (wt0 rfl) (x_move rfl) rfl rfl fun a_87 HE88 => ?_
        have ke27 : k < a0.length := by omega
        obtain ⟨be27, fe27, ese27, Ae27, Re27, De27⟩ := el_old h0 ke27
        obtain ⟨e27, xe27⟩ : ∃ x_, x_ = a0[k] := ⟨_, rfl⟩
        rw [← xe27] at Re27
        have Qe27 := Re27
        obtain ⟨rfl, ge27_0, ge27_1⟩ := shape_Fraction Re27
        have je27_0 := ge27_0; unfold I64 at je27_0
        have je27_1 := ge27_1; unfold I64 at je27_1
        have fe27 := s1 e27 (by rw [xe27]; exact List.getElem_mem _)
        refine dr_take (i := 3) (ls' := #[true, true, true, true, false, false, false, false, false, false, false, false, false, false, false, false, false]) HE88 HS82 rfl (by kernel_rfl) (by kernel_rfl) (by kernel_rfl) (fun _ _ _ h => h) rfl (wt0 rfl) (x_indexAddr ts_31 rfl rfl Ae27 rfl ke27) rfl rfl fun a_89 HE90 => ?_
        refine dr_take (i := 4) (ls' := #[true, true, true, true, true, false, false, false, false, false, false, false, false, false, false, false, false]) HE90 HS82 rfl (by kernel_rfl) (by kernel_rfl) (by kernel_rfl) (fun _ _ _ h => h) rfl (wt0 rfl) (x_fieldAddr fa_103_0 rfl) rfl rfl fun a_91 HE92 => ?_
        refine dr_take (i := 5) (ls' := #[true, true, true, true, true, true, false, false, false, false, false, false, false, false, false, false, false]) HE92 HS82 rfl (by kernel_rfl) (by kernel_rfl) (by kernel_rfl) (fun _ _ _ h => h) rfl (wt0 rfl) (x_load1 tv_2 rfl (c_old (De27 0 _ rfl))) rfl rfl fun a_93 HE94 => ?_
        refine dr_take (i := 8) (ls' := #[true, true, true, true, true, true, false, false, true, false, false, false, false, false, false, false, false]) HE94 HS82 rfl (by kernel_rfl) (by kernel_rfl) (by kernel_rfl) (fun _ _ _ h => h) rfl (wt0 rfl) (x_move rfl) rfl rfl fun a_95 HE96 => ?_
        refine dr_take (i := 9) (ls' := #[true, true, true, true, true, true, false, false, true, true, false, false, false, false, false, false, false]) HE96 HS82 rfl (by kernel_rfl) (by kernel_rfl) (by kernel_rfl) (fun _ _ _ h => h) rfl (wt0 rfl) (x_move rfl) rfl rfl fun a_97 HE98 => ?_
        refine dr_take (i := 10) (ls' := #[true, true, true, true, true, true, false, false, true, true, true, false, false, false, false, false, false]) HE98 HS82 rfl (by kernel_rfl) (by kernel_rfl) (by kernel_rfl) (fun _ _ _ h => h) rfl (wt0 rfl) (x_indexAddr ts_31 rfl rfl Ae27 rfl ke27) rfl rfl fun a_99 HE100 => ?_
        refine dr_take (i := 11) (ls' := #[true, true, true, true, true, true, false, false, true, true, true, true, false, false, false, false, false]) HE100 HS82 rfl (by kernel_rfl) (by kernel_rfl) (by kernel_rfl) (fun _ _ _ h => h) rfl (wt0 rfl) (x_fieldAddr fa_103_1 rfl) rfl rfl fun a_101 HE102 => ?_
        refine dr_take (i := 12) (ls' := #[true, true, true, true, true, true, false, false, true, true, true, true, true, false, false, false, false]) HE102 HS82 rfl (by kernel_rfl) (by kernel_rfl) (by kernel_rfl) (fun _ _ _ h => h) rfl (wt0 rfl) (x_load1 tv_2 rfl (c_old (De27 1 _ rfl))) rfl rfl fun a_103 HE104 => ?_
        refine dr_one (i := 6) (ls' := #[true, true, true, true, true, true, true, false, true, true, true, true, true, false, false, false, false]) rfl (by kernel_rfl) rfl fun K_105 hK106 => ?_
        refine st_call HE104 (wt0 rfl) rfl rfl rfl en_103 rfl rfl (spec_l01Dec e27.1 _ (by omega)) fun e w' hr => ?_
        have hAr28_0 := itoa_len (n := e27.1) (by omega)
        obtain ⟨rfl, hbr28⟩ := hr
        have HH107 := HH81.on hbr28
        refine ⟨_, rfl, fun a_108 HE109 => hK106 _ _ (by exact HH107.sel [] (by decide) rfl) ?_⟩
        have HS110 := HH107.sel [] (by decide) rfl
        refine dr_take (i := 7) (ls' := #[true, true, true, true, true, true, true, true, true, true, true, true, true, false, false, false, false]) HE109 HS110 rfl (by kernel_rfl) (by kernel_rfl) (by kernel_rfl) (fun _ _ _ h => h) rfl (wt0 rfl) (x_sadd rfl rfl (by first | omega | (simp only [List.length_append, List.length_cons, List.length_nil]; omega) | (simp; omega))) rfl rfl fun a_111 HE112 => ?_
        refine dr_one (i := 13) (ls' := #[true, true, true, true, true, true, true, true, true, true, true, true, true, true, false, false, false]) rfl (by kernel_rfl) rfl fun K_113 hK114 => ?_
        refine st_call HE112 (wt0 rfl) rfl rfl rfl en_103 rfl rfl (spec_l01Dec e27.2 _ (by omega)) fun e w' hr => ?_
        have hAr29_0 := itoa_len (n := e27.2) (by omega)
        obtain ⟨rfl, hbr29⟩ := hr
        have HH115 := HH107.on hbr29
        refine ⟨_, rfl, fun a_116 HE117 => hK114 _ _ (by exact HH115.sel [] (by decide) rfl) ?_⟩
        have HS118 := HH115.sel [] (by decide) rfl
        refine dr_take (i := 14) (ls' := #[true, true, true, true, true, true, true, true, true, true, true, true, true, true, true, false, false]) HE117 HS118 rfl (by kernel_rfl) (by kernel_rfl) (by kernel_rfl) (fun _ _ _ h => h) rfl (wt0 rfl) (x_sadd rfl rfl (by first | omega | (simp only [List.length_append, List.length_cons, List.length_nil]; omega) | (simp; omega))) rfl rfl fun a_119 HE120 => ?_
        refine dr_take (i := 15) (ls' := #[true, true, true, true, true, true, true, true, true, true, true, true, true, true, true, true, false]) HE120 HS118 rfl (by kernel_rfl) (by kernel_rfl) (by kernel_rfl) (fun _ _ _ h => h) rfl (wt0 rfl) (x_sadd rfl rfl (by first | omega | (simp only [List.length_append, List.length_cons, List.length_nil]; omega) | (simp; omega))) rfl rfl fun a_121 HE122 => ?_
        refine dr_take (i := 16) (ls' := #[true, true, true, true, true, true, true, true, true, true, true, true, true, true, true, true, true]) HE122 HS118 rfl (by kernel_rfl) (by kernel_rfl) (by kernel_rfl) (fun _ _ _ h => h) rfl (wt0 rfl) (x_assign rfl) rfl rfl fun a_123 HE124 => ?_
        refine dr_done (by kernel_rfl) ?_
        clear HH12 a_23 HE24 a_83 HE84 a_85 HE86 a_87 HE88 a_89 HE90 a_91 HE92 a_93 HE94 a_95 HE96 a_97 HE98 a_99 HE100 a_101 HE102 HH81 a_103 HE104 HS82 a_108 HE109 K_105 hK106 HH107 a_111 HE112 HS110 a_116 HE117 a_119 HE120 a_121 HE122 hK114 K_113
        refine blk_n ?_
        refine nrm ?_
        refine rg ?_
        refine pl_x HE124 HH115 (wt0 rfl) (x_move rfl) rfl rfl fun a_125 HE126 => ?_
        refine pl_x HE126 HH115 (wt0 rfl) (x_add rfl rfl (by exact ⟨by omega, by omega⟩)) rfl rfl fun a_127 HE128 => ?_
        refine pl_x HE128 HH115 (wt0 rfl) (x_assign rfl) rfl rfl fun a_129 HE130 => ?_
        refine wpList_nil ?_
        clear a_123 HE124 a_125 HE126 a_127 HE128
        exact nrm ⟨a0.length - (k + 1), (by omega), k + 1, rfl, HE130.sub ⟨(lkS rfl (by first | (rw [join_step0 _ _ (by omega) (by omega), ← xe27]; done) | (rw [join_step1 _ _ (by omega) (by omega), ← xe27]; done) | (rw [join_step0 _ _ (by omega) (by omega), ← xe27]; rfl) | (rw [join_step1 _ _ (by omega) (by omega), ← xe27]; rfl) | (rw [join_step0 _ _ (by omega) (by omega), ← xe27]; simp [fracT, hc23]; done) | (rw [join_step1 _ _ (by omega) (by omega), ← xe27]; simp [fracT, hc23]; done))), (lkI rfl (by first | rfl | omega | (simp [p21_0, hc22, hc23, xe27]; done))), rfl, trivial⟩, (HH115.sel [] (by decide) rfl), (by first | omega | assumption | (simp; done) | simp_all)⟩
    · refine wp_exit ?_
      refine (thn_exit (thn_exit (blk_hit ?_)))
      refine nrm ?_
      refine wp_seq ?_
      refine rg ?_
      refine pl_x HE20 HH12 (wt0 rfl) (x_move rfl) rfl rfl fun a_131 HE132 => ?_
      refine pl_x HE132 HH12 (wt0 rfl) (x_assign rfl) rfl rfl fun a_133 HE134 => ?_
      refine wpList_nil ?_
      clear a_19 HE20 a_131 HE132
      refine nrm ?_
      refine wp_ret ?_
      refine ret1 HE134 rfl (rv_tmp rfl) ?_
      have hF : (fracsT a0) = (Go.Lib.join ((a0.take k).map fracT) [32]) := by
        unfold fracsT; rw [List.take_of_length_le (by omega)]
      exact ⟨by first | (rw [hF] <;> rfl) | rfl | (rw [hF]; simp only [Ending.returned.injEq, Value.slice.injEq, true_and, and_true]; first | omega | (simp; done)) | (rw [hF]; simp; omega), HH12.below⟩

set_option maxRecDepth 100000 in
set_option maxHeartbeats 4000000 in
theorem spec_FractionsText (A0 : Option Addr) (c0 : Nat) (a0 : (List tFraction)) (w : World) (h0 : Sl eFraction w (Old w) A0 c0 a0) :
    Calls Tryd.prog 15 #[.slice A0 a0.length c0] w fun e w' => e = .returned (.string (bs (fracsText a0))) ∧ Below w.heap.size w w' := by
  have l0 := h0.len
  have HH1 := Held.start Nob w
  refine enter (n := 8) Tryd.func15 rfl rfl rfl fun a_2 HE3 => ?_
  refine wp_seq ?_
  refine rg ?_
  refine pl_x HE3 HH1 (wt0 rfl) (x_assign rfl) rfl rfl fun a_4 HE5 => ?_
  refine wpList_nil ?_
  clear a_2 HE3
  refine nrm ?_
  refine wp_seq ?_
  refine wp_seq ?_
  refine rg ?_
  refine pl_x HE5 HH1 (wt0 rfl) (x_move rfl) rfl rfl fun a_6 HE7 => ?_
  refine pl fun K_8 hK9 => ?_
  refine st_call HE7 (wt0 rfl) rfl rfl rfl en_56 rfl rfl (spec_l08Is _ _ a0 _ (HH1.old h0)) fun e w' hr => ?_
  obtain ⟨rfl, rfl⟩ := hr
  refine ⟨_, rfl, fun a_10 HE11 => hK9 _ _ ?_⟩
  refine pl_x HE11 HH1 (wt0 rfl) (x_not rfl) rfl rfl fun a_12 HE13 => ?_
  refine wpList_nil ?_
  clear a_4 HE5 a_6 HE7 a_10 HE11 hK9 K_8
  refine nrm ?_
  refine cnd_nb HE13 rfl (fun hc22 => ?_) (fun hc22 => ?_)
  · refine wp_seq ?_
    refine rg ?_
    refine pl_x HE13 HH1 (wt0 rfl) (x_assign rfl) rfl rfl fun a_14 HE15 => ?_
    refine wpList_nil ?_
    clear a_12 HE13
    refine nrm ?_
    refine wp_ret ?_
    refine (thn_ret ?_)
    refine ret1 HE15 rfl (rv_tmp rfl) ?_
    have hF : (fracsText a0) = [] := by
      unfold fracsText; simp [hc22]
    exact ⟨by first | (rw [hF] <;> rfl) | rfl | (rw [hF]; simp only [Ending.returned.injEq, Value.slice.injEq, true_and, and_true]; first | omega | (simp; done)) | (rw [hF]; simp; omega), HH1.below⟩
  · have hV := validFrac_facts hc22
    refine wp_skip ?_
    refine nrm ?_
    refine wp_seq ?_
    refine rg ?_
    refine pl_x HE13 HH1 (wt0 rfl) (x_move rfl) rfl rfl fun a_16 HE17 => ?_
    refine pl fun K_18 hK19 => ?_
    refine st_call HE17 (wt0 rfl) rfl rfl rfl en_57 rfl rfl (spec_l08Fractions _ _ a0 _ (HH1.old h0) (by exact hV.1) (by exact hV.2)) fun e w' hr => ?_
    obtain ⟨rfl, hbr23⟩ := hr
    have HH20 := HH1.on hbr23
    refine ⟨_, rfl, fun a_21 HE22 => hK19 _ _ ?_⟩
    refine pl_x HE22 HH20 (wt0 rfl) (x_assign rfl) rfl rfl fun a_23 HE24 => ?_
    refine wpList_nil ?_
    clear a_12 HE13 HH1 a_16 HE17 a_21 HE22 hK19 K_18
    refine nrm ?_
    refine wp_ret ?_
    refine ret1 HE24 rfl (rv_tmp rfl) ?_
    have hF : (fracsText a0) = (fracsT a0) := by
      unfold fracsText; simp [hc22]
    exact ⟨by first | (rw [hF] <;> rfl) | rfl | (rw [hF]; simp only [Ending.returned.injEq, Value.slice.injEq, true_and, and_true]; first | omega | (simp; done)) | (rw [hF]; simp; omega), HH20.below⟩

set_option maxRecDepth 100000 in
set_option maxHeartbeats 4000000 in
theorem law_FractionsText (A0 : Option Addr) (c0 : Nat) (a0 : (List tFraction)) (w : World) (h0 : Sl eFraction w (Old w) A0 c0 a0) (hG : Glob w) :
    Calls Tryd.prog 4 #[.slice A0 a0.length c0] w fun e w' => e = .returned (.bool true) ∧ Below w.heap.size w w' := by
  have l0 := h0.len
  have HH1 := Held.start Nob w
  refine enter (n := 27) Tryd.func4 rfl rfl rfl fun a_2 HE3 => ?_
  refine wp_seq ?_
  refine rg ?_
  refine pl_x HE3 HH1 (wt0 rfl) (x_assign rfl) rfl rfl fun a_4 HE5 => ?_
  refine wpList_nil ?_
  clear a_2 HE3
  refine nrm ?_
  refine wp_seq ?_
  refine rg ?_
  refine pl_x HE5 HH1 (wt0 rfl) (x_assign rfl) rfl rfl fun a_6 HE7 => ?_
  refine wpList_nil ?_
  clear a_4 HE5
  refine nrm ?_
  refine wp_seq ?_
  refine rg ?_
  refine pl_x HE7 HH1 (wt0 rfl) (x_move rfl) rfl rfl fun a_8 HE9 => ?_
  refine pl_x HE9 HH1 (wt0 rfl) (x_move rfl) rfl rfl fun a_10 HE11 => ?_
  refine pl fun K_12 hK13 => ?_
  refine st_call HE11 (wt0 rfl) rfl rfl rfl en_14 rfl rfl (sz_FractionS _ _ a0 1048576 _ (HH1.old h0) (by omega) (by omega)) fun e w' hr => ?_
  obtain ⟨rfl, hbr21⟩ := hr
  have HH14 := HH1.on hbr21
  clear hbr21
  refine ⟨_, rfl, fun a_15 HE16 => hK13 _ _ ?_⟩
  refine pl_x HE16 HH14 (wt0 rfl) (x_assign rfl) rfl rfl fun a_17 HE18 => ?_
  refine wpList_nil ?_
  clear a_6 HE7 a_8 HE9 HH1 a_10 HE11 a_15 HE16 hK13 K_12
  refine nrm ?_
  refine wp_seq ?_
  refine wp_seq ?_
  refine rg ?_
  refine pl_x HE18 HH14 (wt0 rfl) (x_move rfl) rfl rfl fun a_19 HE20 => ?_
  refine pl_x HE20 HH14 (wt0 rfl) (x_lss rfl rfl) rfl rfl fun a_21 HE22 => ?_
  refine wpList_nil ?_
  clear a_17 HE18 a_19 HE20
  refine nrm ?_
  refine cnd_d HE22 rfl (fun hc22 => ?_) (fun hc22 => ?_)
  · refine wp_seq ?_
    refine rg ?_
    refine pl_x HE22 HH14 (wt0 rfl) (x_assign rfl) rfl rfl fun a_23 HE24 => ?_
    refine wpList_nil ?_
    clear a_21 HE22
    refine nrm ?_
    refine wp_ret ?_
    refine (thn_ret ?_)
    refine ret1 HE24 rfl (rv_tmp rfl) ?_
    have hF : true = true := by
      first | rfl | (exfalso; omega)
    exact ⟨by first | (rw [hF] <;> rfl) | rfl | (rw [hF]; simp only [Ending.returned.injEq, Value.slice.injEq, true_and, and_true]; first | omega | (simp; done)) | (rw [hF]; simp; omega), HH14.below⟩
  · have zr21 := left_ok hc22
    refine wp_skip ?_
    refine nrm ?_
    refine wp_seq ?_
    refine rg ?_
    refine pl_x HE22 HH14 (wt0 rfl) (x_move rfl) rfl rfl fun a_25 HE26 => ?_
    refine pl fun K_27 hK28 => ?_
    refine st_call HE26 (wt0 rfl) rfl rfl rfl en_16 rfl rfl (to_FractionS _ _ a0 _ (HH14.old h0) (by omega)) fun e w' hr => ?_
    obtain ⟨Ar23, cr23, rfl, hor23, hbr23⟩ := hr
    obtain ⟨Sr23, HH29⟩ := HH14.newS hbr23 hor23
    clear hbr23 hor23
    refine ⟨_, rfl, fun a_30 HE31 => hK28 _ _ ?_⟩
    refine pl fun K_32 hK33 => ?_
    refine st_call HE31 (wt0 rfl) rfl rfl rfl en_15 rfl rfl (spec_FractionsText _ _ a0 _ (HH29.sl (i := 0) rfl)) fun e w' hr => ?_
    obtain ⟨rfl, hbr24⟩ := hr
    have HH34 := HH29.on hbr24
    refine ⟨_, rfl, fun a_35 HE36 => hK33 _ _ ?_⟩
    refine pl_x HE36 HH34 (wt0 rfl) (x_assign rfl) rfl rfl fun a_37 HE38 => ?_
    refine wpList_nil ?_
    clear a_21 HE22 HH14 a_25 HE26 K_27 hK28 HH29 a_30 HE31 a_35 HE36 hK33 K_32
    refine nrm ?_
    refine wp_seq ?_
    refine rg ?_
    refine pl_x HE38 HH34 (wt0 rfl) (x_move rfl) rfl rfl fun a_39 HE40 => ?_
    refine pl fun K_41 hK42 => ?_
    refine st_call HE40 (wt0 rfl) rfl rfl rfl en_16 rfl rfl (to_FractionS _ _ a0 _ (HH34.old h0) (by omega)) fun e w' hr => ?_
    obtain ⟨Ar25, cr25, rfl, hor25, hbr25⟩ := hr
    obtain ⟨Sr25, HH43⟩ := HH34.newS hbr25 hor25
    clear hbr25 hor25
    refine ⟨_, rfl, fun a_44 HE45 => hK42 _ _ ?_⟩
    refine pl_x HE45 HH43 (wt0 rfl) (x_assign rfl) rfl rfl fun a_46 HE47 => ?_
    refine wpList_nil ?_
    clear a_37 HE38 HH34 a_39 HE40 a_44 HE45 hK42 K_41
    refine nrm ?_
    refine wp_seq ?_
    refine rg ?_
    refine pl_x HE47 HH43 (wt0 rfl) (x_move rfl) rfl rfl fun a_48 HE49 => ?_
    refine pl fun K_50 hK51 => ?_
    refine st_call HE49 (wt0 rfl) rfl rfl rfl en_17 rfl rfl (impl_FractionsText _ _ a0 _ (HH43.sl (i := 0) rfl) (HH43.glob hG)) fun e w' hr => ?_
    obtain ⟨rfl, hbr26⟩ := hr
    have HH52 := HH43.on hbr26
    refine ⟨_, rfl, fun a_53 HE54 => hK51 _ _ ?_⟩
    refine pl_x HE54 HH52 (wt0 rfl) (x_assign rfl) rfl rfl fun a_55 HE56 => ?_
    refine wpList_nil ?_
    clear a_46 HE47 HH43 a_48 HE49 a_53 HE54 hK51 K_50
    refine nrm ?_
    refine wp_seq ?_
    refine wp_seq ?_
    refine rg ?_
    refine pl_x HE56 HH52 (wt0 rfl) (x_move rfl) rfl rfl fun a_57 HE58 => ?_
    refine pl_x HE58 HH52 (wt0 rfl) (x_move rfl) rfl rfl fun a_59 HE60 => ?_
    refine pl_x HE60 HH52 (wt0 rfl) (x_sneqB rfl rfl) rfl rfl fun a_61 HE62 => ?_
    refine wpList_nil ?_
    clear a_55 HE56 a_57 HE58 a_59 HE60
    refine nrm ?_
    refine cndF HE62 rfl (not_f (decide_eq_true rfl)) ?_
    refine wp_skip ?_
    refine nrm ?_
    refine wp_seq ?_
    refine wp_seq ?_
    refine rg ?_
    refine pl_x HE62 HH52 (wt0 rfl) (x_move rfl) rfl rfl fun a_63 HE64 => ?_
    refine pl_x HE64 HH52 (wt0 rfl) (x_move rfl) rfl rfl fun a_65 HE66 => ?_
    refine pl fun K_67 hK68 => ?_
    refine st_call HE66 (wt0 rfl) rfl rfl rfl en_16 rfl rfl (to_FractionS _ _ a0 _ (HH52.old h0) (by omega)) fun e w' hr => ?_
    obtain ⟨Ar27, cr27, rfl, hor27, hbr27⟩ := hr
    obtain ⟨Sr27, HH69⟩ := HH52.newS hbr27 hor27
    clear hbr27 hor27
    refine ⟨_, rfl, fun a_70 HE71 => hK68 _ _ ?_⟩
    refine pl fun K_72 hK73 => ?_
    refine st_call HE71 (wt0 rfl) rfl rfl rfl en_18 rfl rfl (eq_SFraction_c _ _ _ _ a0 a0 _ (HH69.sl (i := 1) rfl) (HH69.sl (i := 0) rfl)) fun e w' hr => ?_
    obtain ⟨rfl, hbr28⟩ := hr
    have HH74 := HH69.on hbr28
    clear hbr28
    refine ⟨_, rfl, fun a_75 HE76 => hK73 _ _ ?_⟩
    refine pl_x HE76 HH74 (wt0 rfl) (x_not rfl) rfl rfl fun a_77 HE78 => ?_
    refine wpList_nil ?_
    clear a_61 HE62 a_63 HE64 HH52 a_65 HE66 K_67 hK68 HH69 a_70 HE71 a_75 HE76 hK73 K_72
    refine nrm ?_
    refine cndF HE78 rfl (not_f (eq_SFraction_refl _)) ?_
    refine wp_skip ?_
    refine nrm ?_
    refine wp_seq ?_
    refine rg ?_
    refine pl_x HE78 HH74 (wt0 rfl) (x_assign rfl) rfl rfl fun a_79 HE80 => ?_
    refine wpList_nil ?_
    clear a_77 HE78
    refine nrm ?_
    refine wp_ret ?_
    refine ret1 HE80 rfl (rv_tmp rfl) ?_
    have hF : true = true := by
      first | rfl | (exfalso; omega)
    exact ⟨by first | (rw [hF] <;> rfl) | rfl | (rw [hF]; simp only [Ending.returned.injEq, Value.slice.injEq, true_and, and_true]; first | omega | (simp; done)) | (rw [hF]; simp; omega), HH74.below⟩

end Go.Proofs.YtjnnkmflpbildaaDoor
