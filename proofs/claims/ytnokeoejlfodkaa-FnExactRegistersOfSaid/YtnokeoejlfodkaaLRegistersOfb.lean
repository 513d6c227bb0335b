/- What the proof of FnExactRegistersOf needs: contracts of the functions that it reaches, each once. -/
import Derived.Test.YtnokeoejlfodkaaProg
import Derived.Test.YtnokeoejlfodkaaQMem
import Derived.Test.YtnokeoejlfodkaaQOpen
import Derived.Test.YtnokeoejlfodkaaLRegistersOfa
import Derived.WalkKit
import Derived.WalkSpells
import Derived.Below
import Derived.LoopTactic
import Derived.Outline
import Derived.Deep.QuietTactic
import Derived.BigQuiet
import Derived.Deep.LoopGhost
import Derived.Handy
import Derived.Lib.Hide
import Derived.Shelf.Abstract
import Derived.StillTailTactics
import Derived.OwnWalk
import Derived.Maps.AppendAt
import Derived.RegionTactic
import Derived.Deep.RegionHeld3
import Derived.IntWalk
import Derived.Deep.Upon
import Derived.Laws.OwnMore
import Derived.Maps.AppendAt
import Derived.Lib.SliceRun
import Derived.Lib.AppendZeros
import Derived.Shelf.SortG.Plain
import Derived.Shelf.SortG.SortNone
import Derived.Shelf.SlicesG.CompactI
import Derived.Shelf.SlicesG.SearchI
import Derived.Sort.OwnSortedInts
import Derived.Lib.RowBridge
namespace Go.Proofs.Ytnokeoejlfodkaa
open Go.RowKit

theorem tv_116 : TV Try.prog 116 true [.int .i64 0, .int .i64 0, .int .i64 0, .int .i64 0] := by
  obtain ⟨i, h1, h2, h3⟩ := tv_parts (show (Try.prog.info? 116).map (fun i => (i.zero, i.size)) = some (some (.agg #[.int .i64 0, .int .i64 0, .int .i64 0, .int .i64 0]), 4) from by kernel_rfl)
  exact ⟨⟨_, Try.underlying116, rfl⟩, i, _, h1, h2, h3, rfl⟩

theorem ts_24 : TSl Try.prog 24 116 4 32 := by
  obtain ⟨i, h1, h2, h3, h4⟩ := ts_parts (show (Try.prog.info? 116).map (fun i => (i.zero, i.size, i.bytes)) = some (some (.agg #[.int .i64 0, .int .i64 0, .int .i64 0, .int .i64 0]), 4, 32) from by kernel_rfl)
  exact ⟨Try.underlying24, i, _, h1, h2, h3, h4, rfl⟩

theorem ts_31 : TSl Try.prog 31 2 1 8 := by
  obtain ⟨i, h1, h2, h3, h4⟩ := ts_parts (show (Try.prog.info? 2).map (fun i => (i.zero, i.size, i.bytes)) = some (some (.int .i64 0), 1, 8) from by kernel_rfl)
  exact ⟨Try.underlying31, i, _, h1, h2, h3, h4, rfl⟩

theorem fa_116_1 : ∀ b o w, (Instr.fieldAt 116 (.pointer (some ⟨b, o, none⟩)) 1).run Try.prog w = .ok (.pointer (some ⟨b, o + 1, none⟩)) w := by
  obtain ⟨i, z, h1, _, h3, _⟩ := tv_2.info
  exact fun b o w => fieldAt_of (f := 1) Try.underlying116 rfl h1 (by rw [h3]; decide) b o w

theorem en_15 : ∀ args w, (callFunc 15 args).run Try.prog w = .ok (.enter 15 args) w := enters_of Try.func15 (by kernel_rfl) rfl

theorem en_17 : ∀ args w, (callFunc 17 args).run Try.prog w = .ok (.enter 17 args) w := enters_of Try.func17 (by kernel_rfl) rfl

theorem en_19 : ∀ args w, (callFunc 19 args).run Try.prog w = .ok (.enter 19 args) w := enters_of Try.func19 (by kernel_rfl) rfl

theorem en_20 : ∀ args w, (callFunc 20 args).run Try.prog w = .ok (.enter 20 args) w := enters_of Try.func20 (by kernel_rfl) rfl

theorem en_24 : ∀ args w, (callFunc 24 args).run Try.prog w = .ok (.enter 24 args) w := enters_of Try.func24 (by kernel_rfl) rfl

theorem en_25 : ∀ args w, (callFunc 25 args).run Try.prog w = .ok (.enter 25 args) w := enters_of Try.func25 (by kernel_rfl) rfl

theorem en_26 : ∀ args w, (callFunc 26 args).run Try.prog w = .ok (.enter 26 args) w := enters_of Try.func26 (by kernel_rfl) rfl

theorem en_72 : ∀ args w, (callFunc 72 args).run Try.prog w = .ok (.enter 72 args) w := enters_of Try.func72 (by kernel_rfl) rfl

theorem en_73 : ∀ args w, (callFunc 73 args).run Try.prog w = .ok (.enter 73 args) w := enters_of Try.func73 (by kernel_rfl) rfl

theorem en_81 : ∀ args w, (callFunc 81 args).run Try.prog w = .ok (.enter 81 args) w := enters_of Try.func81 (by kernel_rfl) rfl

theorem en_85 : ∀ args w, (callFunc 85 args).run Try.prog w = .ok (.enter 85 args) w := enters_of Try.func85 (by kernel_rfl) rfl

theorem en_155 : ∀ args w, (callFunc 155 args).run Try.prog w = .ok (.enter 155 args) w := enters_of Try.func155 (by kernel_rfl) rfl

theorem en_156 : ∀ args w, (callFunc 156 args).run Try.prog w = .ok (.enter 156 args) w := enters_of Try.func156 (by kernel_rfl) rfl

theorem en_157 : ∀ args w, (callFunc 157 args).run Try.prog w = .ok (.enter 157 args) w := enters_of Try.func157 (by kernel_rfl) rfl

theorem ct_L_len (xs : List Int) : ct_L xs = xs.length := by
  have := cntL_const ct_i 1 xs fun _ => rfl
  unfold ct_L; omega

def isReg (r : Int) : Bool := withinB r 0 23

def validInstr (x : tInstr) (n : Int) : Bool :=
  isReg x.2.1 && withinB x.2.2.1 0 n && (if x.1 = 0 then x.2.2.2 == 0 else if x.1 = 1 then withinB x.2.2.2 0 n else false)

theorem impl_isRegister (r : Int) (w : World) : Calls Try.prog 226 #[.int .i64 r] w fun e w' => e = .returned (.bool (isReg r)) ∧ w = w' := by
  unfold isReg
  go_enter Try.func226, Try.ntmps226
  go_wp2_with (go_at_call 112; refine (impl_within _ _ _ _).mono ?_; rintro e w' ⟨rfl, rfl⟩)
  go_ret
  exact ⟨rfl, rfl⟩

theorem spec_l07Register (r : Int) (w : World) : Calls Try.prog 170 #[.int .i64 r] w fun e w' => e = .returned (.bool (isReg r)) ∧ w = w' := by
  unfold isReg
  go_enter Try.func170, Try.ntmps170
  go_wp2_with (go_at_call 108; refine (spec_l00In _ _ _ _).mono ?_; rintro e w' ⟨rfl, rfl⟩)
  go_ret
  exact ⟨rfl, rfl⟩

set_option maxHeartbeats 400000 in
theorem impl_validInstr (x : tInstr) (n : Int) (w : World) :
    Calls Try.prog 174 #[.agg #[.int .i64 x.1, .int .i64 x.2.1, .int .i64 x.2.2.1, .int .i64 x.2.2.2], .int .i64 n] w fun e w' => e = .returned (.bool (validInstr x n)) ∧ Below w.heap.size w w' := by
  obtain ⟨kd, r, t, el⟩ := x
  cases h1 : isReg r
  · rw [show validInstr (kd, r, t, el) n = false from by unfold validInstr; simp [h1]]
    go_enter Try.func174, Try.ntmps174
    go_wp2_with (first | (go_at_call 226; refine (impl_isRegister _ _).mono ?_; rintro e w' ⟨rfl, rfl⟩; rw [h1]) | (go_at_call 112; refine (impl_within _ _ _ _).mono ?_; rintro e w' ⟨rfl, rfl⟩; (try rw [h2])))
    go_ret
    exact ⟨rfl, by go_grown⟩
  cases h2 : withinB t 0 n
  · rw [show validInstr (kd, r, t, el) n = false from by unfold validInstr; simp [h1, h2]]
    go_enter Try.func174, Try.ntmps174
    go_wp2_with (first | (go_at_call 226; refine (impl_isRegister _ _).mono ?_; rintro e w' ⟨rfl, rfl⟩; rw [h1]) | (go_at_call 112; refine (impl_within _ _ _ _).mono ?_; rintro e w' ⟨rfl, rfl⟩; (try rw [h2])))
    go_ret
    exact ⟨rfl, by go_grown⟩
  by_cases k0 : kd = 0
  · have k0' : (kd == 0) = true := by simp [k0]
    rw [show validInstr (kd, r, t, el) n = (el == 0) from by unfold validInstr; simp [h1, h2, k0]]
    go_enter Try.func174, Try.ntmps174
    go_wp2_with (first | (go_at_call 226; refine (impl_isRegister _ _).mono ?_; rintro e w' ⟨rfl, rfl⟩; rw [h1]) | (go_at_call 112; refine (impl_within _ _ _ _).mono ?_; rintro e w' ⟨rfl, rfl⟩; (try rw [h2])))
    go_ret
    exact ⟨rfl, by go_grown⟩
  have k0' : (kd == 0) = false := by simp [k0]
  by_cases k1 : kd = 1
  · have k1' : (kd == 1) = true := by simp [k1]
    rw [show validInstr (kd, r, t, el) n = withinB el 0 n from by unfold validInstr; simp [h1, h2, k1]]
    go_enter Try.func174, Try.ntmps174
    go_wp2_with (first | (go_at_call 226; refine (impl_isRegister _ _).mono ?_; rintro e w' ⟨rfl, rfl⟩; rw [h1]) | (go_at_call 112; refine (impl_within _ _ _ _).mono ?_; rintro e w' ⟨rfl, rfl⟩; (try rw [h2])))
    go_ret
    exact ⟨rfl, by go_grown⟩
  have k1' : (kd == 1) = false := by simp [k1]
  rw [show validInstr (kd, r, t, el) n = false from by unfold validInstr; simp [h1, h2, k0, k1]]
  go_enter Try.func174, Try.ntmps174
  go_wp2_with (first | (go_at_call 226; refine (impl_isRegister _ _).mono ?_; rintro e w' ⟨rfl, rfl⟩; rw [h1]) | (go_at_call 112; refine (impl_within _ _ _ _).mono ?_; rintro e w' ⟨rfl, rfl⟩; (try rw [h2])))
  go_ret
  exact ⟨rfl, by go_grown⟩

theorem enters_ValidProgram1 : ∀ args w, (callFunc 173 args).run Try.prog w = .ok (.enter 173 args) w := enters_of Try.func173 (by kernel_rfl) rfl

theorem impl_ValidProgram1 (es : List Value) (x : tInstr) (w : World) (h : eInstr.R w (Old w) es x) (B : Nat) (A : Option Addr) (n c : Nat) (hB : w.cell? ⟨B, 0, none⟩ = some (.slice A n c)) :
    Calls Try.prog 173 #[.agg es.toArray, .pointer (some ⟨B, 0, none⟩)] w fun e w' => e = .returned (.bool (!validInstr x n)) ∧ Below w.heap.size w w' := by
  obtain ⟨rfl, _, _, _, _⟩ := shape_Instr h
  clear h
  have hlt : B < w.heap.size := World.block_lt_of_cell? w _ hB
  go_enter Try.func173, Try.ntmps173
  go_wp2_with fail
  go_region_held3 (fun w' => w'.cell? ⟨w.heap.size, 0, none⟩ = some (.int .i64 x.1) ∧ w'.cell? ⟨w.heap.size, 1, none⟩ = some (.int .i64 x.2.1) ∧ w'.cell? ⟨w.heap.size, 2, none⟩ = some (.int .i64 x.2.2.1) ∧ w'.cell? ⟨w.heap.size, 3, none⟩ = some (.int .i64 x.2.2.2) ∧ w'.cell? ⟨B, 0, none⟩ = some (.slice A n c)) (first | (simp [go_sem, World.cell?_alloc_past, hB, hlt]; done) | (obtain ⟨hc, hf⟩ := bcell hb; simp [hc, go_sem, World.cell?_alloc_past, hB, hlt, Nat.lt_succ_of_lt hlt]))
    (first
      | (go_at_call 91; refine (impl_size_Instr _ _ _ _).mono ?_; rintro e w' ⟨rfl, rfl⟩)
      | (go_at_call 174; refine (impl_validInstr x _ _).mono ?_; rintro e w' ⟨rfl, hb⟩))
  go_wp2
  go_ret
  exact ⟨rfl, below_trans ((Below.refl _ _).alloc (Nat.le_refl _) _).drew hb⟩

def validProg (p : List tInstr) : Bool := decide (p.length ≤ 400) && !p.any fun x => !validInstr x p.length

set_option maxHeartbeats 400000 in
theorem impl_ValidProgram (A : Option Addr) (c : Nat) (xs : List tInstr) (w : World) (h : Sl eInstr w (Old w) A c xs) :
    Calls Try.prog 85 #[.slice A xs.length c] w fun e w' => e = .returned (.bool (validProg xs)) ∧ Below w.heap.size w w' := by
  have hW : Below w.heap.size w (w.alloc (.cells #[.slice A xs.length c] 24)) := (Below.refl _ _).alloc (Nat.le_refl _) _
  have hI := Lib.hid (ContainsFunc_Instr (fun x => !validInstr x xs.length) 173 #[.pointer (some ⟨w.heap.size, 0, none⟩)] A c xs _ (h.on hW) enters_ValidProgram1 (fun W x es _ hb hR => impl_ValidProgram1 es x W hR w.heap.size A xs.length c (by
    rw [hb.cell (p := ⟨w.heap.size, 0, none⟩) (by simp)]; simp [go_sem])))
  have HW := Lib.hid hW; clear hW h
  by_cases h1 : xs.length ≤ 400
  · have h1' : decide ((xs.length : Int) ≤ 400) = true := by simp; omega
    rw [show validProg xs = !xs.any (fun x => !validInstr x xs.length) from by unfold validProg; simp [h1]]
    go_enter Try.func85, Try.ntmps85
    go_wp2_with (go_at_call 172; refine hI.out.mono ?_; rintro e w' ⟨rfl, hb⟩)
    go_ret
    exact ⟨rfl, below_trans HW.out hb⟩
  · have h1' : decide ((xs.length : Int) ≤ 400) = false := by simp; omega
    rw [show validProg xs = false from by unfold validProg; simp [h1]]
    go_enter Try.func85, Try.ntmps85
    go_wp2_with fail
    go_ret
    exact ⟨rfl, HW.out⟩

theorem validInstr_eq (kd r t el : Int) (n : Nat) : validInstr (kd, r, t, el) n = (isReg r && withinB t 0 n && ((kd == 0 || kd == 1) && (kd != 0 || el == 0) && withinB el 0 n)) := by
  unfold validInstr
  by_cases k0 : kd = 0
  · subst k0
    by_cases e0 : el = 0
    · subst e0; simp [withinB]
    · have e0' : (el == 0) = false := by simp [e0]
      simp [e0']
  · by_cases k1 : kd = 1
    · subst k1; simp
    · simp [k0, k1]

def badProg (p : List tInstr) (x : tInstr) : Bool := !validInstr x p.length

theorem validProg_eq (p : List tInstr) : validProg p = (!p.any (badProg p) && decide (p.length ≤ 400)) := by
  unfold validProg badProg; rw [Bool.and_comm]

set_option maxHeartbeats 1000000 in
theorem spec_l07Is (A : Option Addr) (c : Nat) (xs : List tInstr) (w : World) (h : Sl eInstr w (Old w) A c xs) :
    Calls Try.prog 81 #[.slice A xs.length c] w fun e w' => e = .returned (.bool (validProg xs)) ∧ Below w.heap.size w w' := by
  have hlen := h.len
  have H := Lib.hid h; clear h
  have HV := Lib.hid (validProg_eq xs)
  go_enter Try.func81, Try.ntmps81
  go_wp2
  go_loopw [4] (fun s4 wr => ∃ k : Nat, k ≤ xs.length ∧ s4 = .int .i64 k ∧ Hid ((xs.take k).any (badProg xs) = false) ∧ Hid (Below w.heap.size w wr)) (fun s4 _ => xs.length - (intOf s4).toNat)
  case atStart => exact ⟨0, Nat.zero_le _, rfl, rfl, Below.refl _ w⟩
  case round =>
    obtain ⟨k, hk, rfl, HN, BW⟩ := hrel
    by_cases hlt : k < xs.length
    · have hltz : (k : Int) < (xs.length : Int) := by omega
      obtain ⟨b, off, es, rfl, hb, hR, hc⟩ := H.out.at hlt
      obtain ⟨rfl, _, _, _, _⟩ := shape_Instr hR
      have d0 : wr.cell? ⟨b, off + k * 4, none⟩ = some (.int .i64 xs[k].1) := (below_olds BW.out _ hb).trans (hc 0 _ rfl)
      have d1 : wr.cell? ⟨b, off + k * 4 + 1, none⟩ = some (.int .i64 xs[k].2.1) := (below_olds BW.out _ hb).trans (hc 1 _ rfl)
      have d2 : wr.cell? ⟨b, off + k * 4 + 2, none⟩ = some (.int .i64 xs[k].2.2.1) := (below_olds BW.out _ hb).trans (hc 2 _ rfl)
      have d3 : wr.cell? ⟨b, off + k * 4 + 3, none⟩ = some (.int .i64 xs[k].2.2.2) := (below_olds BW.out _ hb).trans (hc 3 _ rfl)
      clear hc hR
      have HT : Hid (badProg xs xs[k] = true → validProg xs = false) := fun e => by rw [HV.out, any_hit hlt e]; rfl
      have HS : Hid (badProg xs xs[k] = false → (xs.take (k + 1)).any (badProg xs) = false) := fun e => any_step hlt HN.out e
      generalize xs[k] = y at d0 d1 d2 d3 HT HS
      obtain ⟨kd, r, t, el⟩ := y
      have HE : Hid (badProg xs (kd, r, t, el) = !(isReg r && withinB t 0 xs.length && ((kd == 0 || kd == 1) && (kd != 0 || el == 0) && withinB el 0 xs.length))) := by show _ = _; unfold badProg; rw [validInstr_eq]
      have HBW : Hid (∀ o, Below w.heap.size w (wr.alloc o)) := fun o => below_alloc BW.out o
      cases q1 : isReg r
      · go_wp2_with (go_at_call 170; refine (spec_l07Register _ _).mono ?_; rintro e w' ⟨rfl, rfl⟩; rw [q1])
        go_ret
        exact ⟨by rw [HT.out (by rw [HE.out, q1]; simp)]; rfl, HBW.out _⟩
      cases q2 : withinB t 0 xs.length
      · go_wp2_with (first | (go_at_call 170; refine (spec_l07Register _ _).mono ?_; rintro e w' ⟨rfl, rfl⟩; rw [q1]) | (go_at_call 108; refine (spec_l00In _ _ _ _).mono ?_; rintro e w' ⟨rfl, rfl⟩; rw [q2]))
        go_ret
        exact ⟨by rw [HT.out (by rw [HE.out, q2]; simp)]; rfl, HBW.out _⟩
      by_cases k0 : kd = 0
      · subst k0
        by_cases e0 : el = 0
        · subst e0
          cases q3 : withinB 0 0 xs.length
          · exfalso; simp [withinB] at q3
          have hF := HS.out (by rw [HE.out, q1, q2, q3]; simp)
          have HF := Lib.hid hF; clear hF
          go_wp2_with (first | (go_at_call 170; refine (spec_l07Register _ _).mono ?_; rintro e w' ⟨rfl, rfl⟩; rw [q1]) | (go_at_call 108; refine (spec_l00In _ _ _ _).mono ?_; rintro e w' ⟨rfl, rfl⟩; first | rw [q2] | rw [q3]))
          go_roundw
          case rel => exact ⟨k + 1, by omega, by go_num, HF.out, HBW.out _⟩
          case measure => simp [intOf]; omega
        · have e0' : (el != 0) = true := by simp [e0]
          have hF := HT.out (by rw [HE.out]; simp [e0])
          have HF := Lib.hid hF; clear hF
          go_wp2_with (first | (go_at_call 170; refine (spec_l07Register _ _).mono ?_; rintro e w' ⟨rfl, rfl⟩; rw [q1]) | (go_at_call 108; refine (spec_l00In _ _ _ _).mono ?_; rintro e w' ⟨rfl, rfl⟩; rw [q2]))
          go_ret
          exact ⟨by rw [HF.out]; rfl, HBW.out _⟩
      have k0a : (kd != 0) = true := by simp [k0]
      have k0b : (kd == 0) = false := by simp [k0]
      by_cases k1 : kd = 1
      · subst k1
        cases q3 : withinB el 0 xs.length
        · have hF := HT.out (by rw [HE.out, q3]; simp)
          have HF := Lib.hid hF; clear hF
          go_wp2_with (first | (go_at_call 170; refine (spec_l07Register _ _).mono ?_; rintro e w' ⟨rfl, rfl⟩; rw [q1]) | (go_at_call 108; refine (spec_l00In _ _ _ _).mono ?_; rintro e w' ⟨rfl, rfl⟩; first | rw [q2] | rw [q3]))
          go_ret
          exact ⟨by rw [HF.out]; rfl, HBW.out _⟩
        · have hF := HS.out (by rw [HE.out, q1, q2, q3]; simp)
          have HF := Lib.hid hF; clear hF
          go_wp2_with (first | (go_at_call 170; refine (spec_l07Register _ _).mono ?_; rintro e w' ⟨rfl, rfl⟩; rw [q1]) | (go_at_call 108; refine (spec_l00In _ _ _ _).mono ?_; rintro e w' ⟨rfl, rfl⟩; first | rw [q2] | rw [q3]))
          go_roundw
          case rel => exact ⟨k + 1, by omega, by go_num, HF.out, HBW.out _⟩
          case measure => simp [intOf]; omega
      have k1a : (kd != 1) = true := by simp [k1]
      have hF := HT.out (by rw [HE.out]; simp [k0, k1])
      have HF := Lib.hid hF; clear hF
      go_wp2_with (first | (go_at_call 170; refine (spec_l07Register _ _).mono ?_; rintro e w' ⟨rfl, rfl⟩; rw [q1]) | (go_at_call 108; refine (spec_l00In _ _ _ _).mono ?_; rintro e w' ⟨rfl, rfl⟩; rw [q2]))
      go_ret
      exact ⟨by rw [HF.out]; rfl, HBW.out _⟩
    · have hltz : ¬ (k : Int) < (xs.length : Int) := by omega
      obtain rfl : k = xs.length := by omega
      go_wp2
      go_ret
      have hn := HN.out
      rw [List.take_length] at hn
      exact ⟨ret_bool (by rw [HV.out, hn]; simp; omega), BW.out⟩

theorem left_ok {l : Int} {n : Nat} (h : ¬ left l n < 0) : left l n = l - (n : Int) ∧ (n : Int) ≤ l := by
  unfold left at *; split at h <;> simp_all <;> omega

theorem validProg_to {p : List tInstr} (h : validProg p = true) : ∀ i ∈ p, (0 ≤ i.2.2.1 ∧ i.2.2.1 ≤ p.length) ∧ (0 ≤ i.2.2.2 ∧ i.2.2.2 ≤ p.length) := by
  intro i hi
  unfold validProg at h
  simp at h
  have h1 := h.2 i.1 i.2.1 i.2.2.1 i.2.2.2 hi
  unfold validInstr at h1
  simp only [Bool.and_eq_true] at h1
  refine ⟨withinB_true.1 h1.1.2, ?_⟩
  have h3 := h1.2
  split at h3
  · simp at h3; omega
  · split at h3
    · exact withinB_true.1 h3
    · simp at h3

theorem ct_cost_SInstr (xs : List tInstr) : ct_SInstr xs ≤ 4 * cost_SInstr xs := by
  have := cntL_const ct_Instr 4 xs fun _ => rfl
  unfold ct_SInstr cost_SInstr; omega

def okP (p : List tInstr) : Prop := p.length ≤ 400 ∧ ∀ x ∈ p, (x.1 = 0 ∨ x.1 = 1) ∧ (0 ≤ x.2.2.1 ∧ x.2.2.1 ≤ 400) ∧ 0 ≤ x.2.2.2 ∧ x.2.2.2 ≤ 400

theorem validProg_okP {p : List tInstr} (h : validProg p = true) : okP p := by
  have hl : p.length ≤ 400 := by
    unfold validProg at h
    simp at h
    omega
  refine ⟨hl, fun x hx => ?_⟩
  have h2 := validProg_to h x hx
  refine ⟨?_, by omega, by omega, by omega⟩
  unfold validProg at h
  simp at h
  have h1 := h.2 x.1 x.2.1 x.2.2.1 x.2.2.2 hx
  unfold validInstr at h1
  simp only [Bool.and_eq_true] at h1
  have h3 := h1.2
  split at h3
  · rename_i q; exact .inl (by simpa using q)
  · split at h3
    · rename_i q; exact .inr (by simpa using q)
    · simp at h3

theorem heap_row {w : World} {g n off : Nat} {os : Array Obj} {cur : Array Value} {e : TypeId} {fr : Nat × Nat} (d : Array Int) (hb : w.heap[g]? = some (.cells cur e fr)) :
    (Go.Sort.grow (Go.Sort.putRow (Value.int .i64) (Go.Sort.ahead w n) g off d) os).heap[g]? = some (.cells (Go.Sort.putCells (Value.int .i64) off d cur) e fr) := by
  have hg : g < w.heap.size := (Array.getElem?_eq_some_iff.1 hb).1
  rw [Go.Sort.heap_grow_old _ _ (by simpa using hg)]
  simp [Go.Sort.putRow, Go.Sort.mapBlock, Go.Sort.ahead, Array.getElem?_modify, hb, Go.Sort.onCells]

theorem chg_row {w : World} {g n off : Nat} {os : Array Obj} {S : Nat → Prop} (d : Array Int) (hS : S g) : Chg S w (Go.Sort.grow (Go.Sort.putRow (Value.int .i64) (Go.Sort.ahead w n) g off d) os) := by
  refine ⟨rfl, rfl, rfl, by simp, fun k hk hne => ?_⟩
  rw [Go.Sort.heap_grow_old _ _ (by simpa using hk)]
  have : g ≠ k := fun e => hne (by rw [← e]; exact hS)
  simp [Go.Sort.putRow, Go.Sort.mapBlock, Go.Sort.ahead, Array.getElem?_modify, this]

theorem so_row {w : World} {S : Nat → Prop} {A : Option Addr} {c : Nat} {xs : List Int} (h : So eInt w S A c xs) (hx : xs ≠ []) :
    ∃ b off, A = some ⟨b, off, none⟩ ∧ S b ∧ b < w.heap.size ∧ Go.Sort.Holds (Value.int .i64) w b off xs.toArray ∧ (∀ x ∈ xs, I64 x) ∧
      ∀ (ys : List Int) (n : Nat) (os : Array Obj), ys.length = xs.length → (∀ y ∈ ys, I64 y) → So eInt (Go.Sort.grow (Go.Sort.putRow (Value.int .i64) (Go.Sort.ahead w n) b off ys.toArray) os) S A c ys ∧ Chg S w (Go.Sort.grow (Go.Sort.putRow (Value.int .i64) (Go.Sort.ahead w n) b off ys.toArray) os) := by
  obtain ⟨h1, h2, h3⟩ := h
  obtain ⟨b, off, t, cur, T, rfl, hb, hB, hT1, hT2, hE⟩ := h3 hx
  have hcell : ∀ (i : Nat) (x : Int), xs[i]? = some x → cur[off + i]? = some (.int .i64 x) ∧ I64 x := by
    intro i x hi
    obtain ⟨es, ⟨rfl, hI⟩, hc⟩ := hE i x hi
    have := hc 0 _ rfl
    rw [show off + i * eInt.size + 0 = off + i from by simp [eInt]] at this
    exact ⟨this, hI⟩
  refine ⟨b, off, rfl, hb, Blk.lt hB, ?_, ?_, ?_⟩
  · intro j hj
    have hj' : j < xs.length := by simpa using hj
    refine ⟨?_, by
      have hB' : w.heap[b]? = some (.cells cur t (0, 0)) := hB
      simp [World.frozen?, hB']⟩
    rw [hB.cell, (hcell j xs[j] (List.getElem?_eq_getElem hj')).1]
    simp [hj']
  · intro x hx'
    obtain ⟨i, hi⟩ := List.mem_iff_getElem?.1 hx'
    exact (hcell i x hi).2
  · intro ys n os hl hI
    refine ⟨⟨by omega, h2, fun _ => ⟨b, off, t, _, T, rfl, hb, heap_row ys.toArray hB, hT1, hT2, ?_⟩⟩, chg_row _ hb⟩
    intro i y hy
    refine ⟨[.int .i64 y], ⟨rfl, hI y (List.mem_of_getElem? hy)⟩, fun j v hv => ?_⟩
    rcases j with _ | j
    · simp at hv
      subst hv
      have hi : i < xs.length := by have := (List.getElem?_eq_some_iff.1 hy).1; omega
      have hc := (hcell i xs[i] (List.getElem?_eq_getElem hi)).1
      have hi2 : i < ys.length := by omega
      have hy2 : ys[i] = y := by rw [List.getElem?_eq_getElem hi2] at hy; exact Option.some.inj hy
      rw [show off + i * eInt.size + 0 = off + i from by simp [eInt]]
      simp [Go.Sort.putCells, Array.getElem?_mapIdx, hc, hi2, hy2]
    · simp at hv

def sortI (xs : List Int) : List Int := xs.mergeSort fun x y => decide (x ≤ y)

theorem sortI_len (xs : List Int) : (sortI xs).length = xs.length := List.length_mergeSort xs

theorem sortI_mem {xs : List Int} {x : Int} : x ∈ sortI xs ↔ x ∈ xs := (List.mergeSort_perm xs _).mem_iff

def shelf_sort_ren : Go.Shelf.Ren := ⟨fun | 53 => 156 | 64 => 220 | 63 => 219 | 78 => 246 | 79 => 247 | 70 => 238 | 71 => 239 | 72 => 240 | 73 => 241 | 74 => 242 | 75 => 243 | 59 => 179 | 76 => 244 | 77 => 245 | 88 => 251 | 89 => 252 | 90 => 253 | 91 => 254 | 92 => 255 | 68 => 228 | 96 => 264 | n => n, fun | 22 => 31 | 23 => 2 | 3 => 3 | 51 => 209 | 0 => 0 | 67 => 263 | 69 => 265 | 4 => 4 | 61 => 257 | 60 => 256 | 44 => 128 | 5 => 5 | 9 => 9 | 75 => 269 | 79 => 273 | 83 => 280 | 84 => 281 | n => n, fun | n => n⟩

theorem shelf_sort : Go.Proofs.SlLaysN.n53 Try.prog shelf_sort_ren := {
  mixed := by kernel_rfl
  f53 := ⟨Try.f156.name, by decide, Try.func156.trans (congrArg some (by kernel_rfl))⟩
  f59 := ⟨Try.f179.name, by decide, Try.func179.trans (congrArg some (by kernel_rfl))⟩
  f63 := ⟨Try.f219.name, by decide, Try.func219.trans (congrArg some (by kernel_rfl))⟩
  f64 := Try.func220.trans (congrArg some (by kernel_rfl))
  f68 := ⟨Try.f228.name, by decide, Try.func228.trans (congrArg some (by kernel_rfl))⟩
  f70 := ⟨Try.f238.name, by decide, Try.func238.trans (congrArg some (by kernel_rfl))⟩
  f71 := ⟨Try.f239.name, by decide, Try.func239.trans (congrArg some (by kernel_rfl))⟩
  f72 := ⟨Try.f240.name, by decide, Try.func240.trans (congrArg some (by kernel_rfl))⟩
  f73 := ⟨Try.f241.name, by decide, Try.func241.trans (congrArg some (by kernel_rfl))⟩
  f74 := ⟨Try.f242.name, by decide, Try.func242.trans (congrArg some (by kernel_rfl))⟩
  f75 := ⟨Try.f243.name, by decide, Try.func243.trans (congrArg some (by kernel_rfl))⟩
  f76 := ⟨Try.f244.name, by decide, Try.func244.trans (congrArg some (by kernel_rfl))⟩
  f77 := ⟨Try.f245.name, by decide, Try.func245.trans (congrArg some (by kernel_rfl))⟩
  f78 := Try.func246.trans (congrArg some (by kernel_rfl))
  f79 := Try.func247.trans (congrArg some (by kernel_rfl))
  f88 := ⟨Try.f251.name, by decide, Try.func251.trans (congrArg some (by kernel_rfl))⟩
  f89 := Try.func252.trans (congrArg some (by kernel_rfl))
  f90 := Try.func253.trans (congrArg some (by kernel_rfl))
  f91 := ⟨Try.f254.name, by decide, Try.func254.trans (congrArg some (by kernel_rfl))⟩
  f92 := ⟨Try.f255.name, by decide, Try.func255.trans (congrArg some (by kernel_rfl))⟩
  f96 := ⟨Try.f264.name, by decide, Try.func264.trans (congrArg some (by kernel_rfl))⟩
  t0 := Try.underlying0
  a0 := Try.isAgg0
  z0 := Try.sizeOf0
  v0 := Try.zeroValue0
  t3 := Try.underlying3
  a3 := Try.isAgg3
  z3 := Try.sizeOf3
  v3 := Try.zeroValue3
  t4 := Try.underlying4
  a4 := Try.isAgg4
  z4 := Try.sizeOf4
  v4 := Try.zeroValue4
  t5 := Try.underlying5
  a5 := Try.isAgg5
  z5 := Try.sizeOf5
  v5 := Try.zeroValue5
  t9 := Try.underlying9
  a9 := Try.isAgg9
  z9 := Try.sizeOf9
  v9 := Try.zeroValue9
  t22 := Try.underlying31
  a22 := Try.isAgg31
  z22 := Try.sizeOf31
  v22 := Try.zeroValue31
  t23 := Try.underlying2
  a23 := Try.isAgg2
  z23 := Try.sizeOf2
  v23 := Try.zeroValue2
  t44 := Try.underlying128
  a44 := Try.isAgg128
  z44 := Try.sizeOf128
  v44 := Try.zeroValue128
  t51 := Try.underlying209
  a51 := Try.isAgg209
  z51 := Try.sizeOf209
  v51 := Try.zeroValue209
  t60 := Try.underlying256
  a60 := Try.isAgg256
  z60 := Try.sizeOf256
  v60 := Try.zeroValue256
  t61 := Try.underlying257
  a61 := Try.isAgg257
  z61 := Try.sizeOf257
  v61 := Try.zeroValue257
  t67 := Try.underlying263
  a67 := Try.isAgg263
  z67 := Try.sizeOf263
  v67 := Try.zeroValue263
  t69 := Try.underlying265
  a69 := Try.isAgg265
  z69 := Try.sizeOf265
  v69 := Try.zeroValue265
  t75 := Try.underlying269
  a75 := Try.isAgg269
  z75 := Try.sizeOf269
  v75 := Try.zeroValue269
  t79 := Try.underlying273
  a79 := Try.isAgg273
  z79 := Try.sizeOf273
  v79 := Try.zeroValue273
  t83 := Try.underlying280
  a83 := Try.isAgg280
  z83 := Try.sizeOf280
  v83 := Try.zeroValue280
  t84 := Try.underlying281
  a84 := Try.isAgg281
  z84 := Try.sizeOf281
  v84 := Try.zeroValue281 }

def shelf_compact_ren : Go.Shelf.Ren := ⟨fun | 43 => 157 | n => n, fun | 22 => 31 | 23 => 2 | 3 => 3 | 4 => 4 | 0 => 0 | n => n, fun | n => n⟩

theorem shelf_compact : Go.Proofs.SlLaysN.n43 Try.prog shelf_compact_ren := {
  mixed := by kernel_rfl
  f43 := ⟨Try.f157.name, by decide, Try.func157.trans (congrArg some (by kernel_rfl))⟩
  t0 := Try.underlying0
  a0 := Try.isAgg0
  z0 := Try.sizeOf0
  v0 := Try.zeroValue0
  t3 := Try.underlying3
  a3 := Try.isAgg3
  z3 := Try.sizeOf3
  v3 := Try.zeroValue3
  t4 := Try.underlying4
  a4 := Try.isAgg4
  z4 := Try.sizeOf4
  v4 := Try.zeroValue4
  t22 := Try.underlying31
  a22 := Try.isAgg31
  z22 := Try.sizeOf31
  v22 := Try.zeroValue31
  t23 := Try.underlying2
  a23 := Try.isAgg2
  z23 := Try.sizeOf2
  v23 := Try.zeroValue2
  i23 := by kernel_rfl }

theorem Sort_Int64 (M : Nat → Prop) (A : Option Addr) (c : Nat) (a : List Int) (S : Nat → Prop) (w : World) (HM : Held M w [rSo eInt S A c a] w) (s0 : a.length ≤ 1000000000) :
    Calls Try.prog 156 #[.slice A a.length c] w fun e w' => ∃ (S' : Nat → Prop), e = .returned (.tuple #[]) ∧ Held M w [rSo eInt S' A c (sortI a)] w' := by
  by_cases hx : a = []
  · subst hx
    refine (show Calls Try.prog 156 #[.slice A 0 c] w _ from AnyG.slices_Sort_int_none shelf_sort A c w).mono ?_
    rintro e w' ⟨rfl, rfl⟩
    exact ⟨S, rfl, by rw [show sortI [] = [] from by simp [sortI]]; exact HM⟩
  · obtain ⟨b, off, rfl, hb, hlt, hH, hI, hput⟩ := so_row (so_of_o (HM.get (i := 0) rfl)) hx
    refine (show Calls Try.prog 156 #[.slice (some ⟨b, off, none⟩) a.length c] w _ from AnyG.slices_Sort_int shelf_sort b off c a w hH hlt (by omega)).mono ?_
    rintro e w' ⟨rfl, n, os, rfl⟩
    obtain ⟨h1, h2⟩ := hput (sortI a) n os (sortI_len a) fun y hy => hI y (sortI_mem.1 hy)
    exact ⟨S, rfl, HM.mut (i := 0) rfl h2 (rSo eInt S (some ⟨b, off, none⟩) c (sortI a)) (oSl h1) fun _ hb => .inl hb⟩

def compI (xs : List Int) : List Int := Go.Lib.compact xs

theorem compI_le (xs : List Int) : (compI xs).length ≤ xs.length := Go.Lib.compact_length_le xs

theorem compactUp_mem (d : Array Int) : ∀ (m : Nat) (x : Int), x ∈ Go.Lib.compactUpTo d m ↔ ∃ j, j < m ∧ d[j]! = x
  | 0, x => by simp [Go.Lib.compactUpTo]
  | m + 1, x => by
    rw [Go.Lib.compactUpTo_succ, List.mem_append, compactUp_mem d m x]
    constructor
    · rintro (⟨j, hj, rfl⟩ | h)
      · exact ⟨j, by omega, rfl⟩
      · split at h
        · exact ⟨m, by omega, (List.mem_singleton.1 h).symm⟩
        · cases h
    · rintro ⟨j, hj, rfl⟩
      by_cases e : j = m
      · subst e
        by_cases hk : Go.Lib.keeps d j = true
        · right; rw [if_pos hk]; simp
        · left
          unfold Go.Lib.keeps at hk
          simp at hk
          exact ⟨j - 1, by omega, hk.2.symm⟩
      · left; exact ⟨j, by omega, rfl⟩

theorem compactUp_rise (d : Array Int) (hs : ∀ i j, i ≤ j → j < d.size → d[i]! ≤ d[j]!) : ∀ m, m ≤ d.size → (Go.Lib.compactUpTo d m).Pairwise (· < ·)
  | 0, _ => by simp [Go.Lib.compactUpTo]
  | m + 1, hm => by
    rw [Go.Lib.compactUpTo_succ]
    have ih := compactUp_rise d hs m (by omega)
    split
    · rename_i hk
      refine List.pairwise_append.2 ⟨ih, by simp, fun x hx y hy => ?_⟩
      rw [List.mem_singleton.1 hy]
      obtain ⟨j, hj, rfl⟩ := (compactUp_mem d m x).1 hx
      unfold Go.Lib.keeps at hk
      simp at hk
      have h1 := hs j (m - 1) (by omega) (by omega)
      have h2 := hs (m - 1) m (by omega) (by omega)
      have h3 : d[m]! ≠ d[m - 1]! := by
        rcases hk with hk | hk
        · omega
        · exact hk
      omega
    · simpa using ih

theorem compI_mem {xs : List Int} {x : Int} : x ∈ compI xs ↔ x ∈ xs := by
  unfold compI Go.Lib.compact
  rw [compactUp_mem]
  constructor
  · rintro ⟨j, hj, rfl⟩
    simp [hj]
  · intro h
    obtain ⟨j, hj, rfl⟩ := List.mem_iff_getElem.1 h
    exact ⟨j, hj, by simp [hj]⟩

theorem compI_rise {xs : List Int} (h : xs.Pairwise (· ≤ ·)) : (compI xs).Pairwise (· < ·) := by
  refine compactUp_rise xs.toArray (fun i j hij hj => ?_) _ (by simp)
  have hj' : j < xs.length := by simpa using hj
  rcases Nat.lt_or_eq_of_le hij with h1 | rfl
  · have := List.pairwise_iff_getElem.1 h i j (by omega) hj' h1
    simpa [hj', show i < xs.length by omega] using this
  · exact Int.le_refl _

theorem sortI_rise (xs : List Int) : (sortI xs).Pairwise (· ≤ ·) := by
  have := List.pairwise_mergeSort (le := fun x y : Int => decide (x ≤ y)) (fun a b c h1 h2 => by simp at *; omega) (fun a b => by simp; omega) xs
  exact this.imp fun h => by simpa using h

theorem rise_ext : ∀ {xs ys : List Int}, xs.Pairwise (· < ·) → ys.Pairwise (· < ·) → (∀ x, x ∈ xs ↔ x ∈ ys) → xs = ys
  | [], [], _, _, _ => rfl
  | [], y :: ys, _, _, h => by have := (h y).2 (by simp); cases this
  | x :: xs, [], _, _, h => by have := (h x).1 (by simp); cases this
  | x :: xs, y :: ys, hx, hy, h => by
    obtain ⟨hx1, hx2⟩ := List.pairwise_cons.1 hx
    obtain ⟨hy1, hy2⟩ := List.pairwise_cons.1 hy
    have e : x = y := by
      have h1 := (h x).1 (by simp)
      have h2 := (h y).2 (by simp)
      rcases List.mem_cons.1 h1 with h1 | h1
      · exact h1
      · rcases List.mem_cons.1 h2 with h2 | h2
        · exact h2.symm
        · have := hx1 y h2
          have := hy1 x h1
          omega
    subst e
    rw [rise_ext hx2 hy2 fun z => ?_]
    constructor
    · intro hz
      rcases List.mem_cons.1 ((h z).1 (by simp [hz])) with q | q
      · have := hx1 z hz; omega
      · exact q
    · intro hz
      rcases List.mem_cons.1 ((h z).2 (by simp [hz])) with q | q
      · have := hy1 z hz; omega
      · exact q

theorem Compact_Int64 (M : Nat → Prop) (A : Option Addr) (c : Nat) (a : List Int) (S : Nat → Prop) (w : World) (HM : Held M w [rSo eInt S A c a] w) (s0 : a.length ≤ 1000000000) :
    Calls Try.prog 157 #[.slice A a.length c] w fun e w' => ∃ (A' : Option Addr) (c' : Nat) (S' : Nat → Prop), e = .returned (.slice A' (compI a).length c') ∧ Held M w [rSo eInt S' A' c' (compI a)] w' := by
  by_cases hx : a = []
  · subst hx
    refine (show Calls Try.prog 157 #[.slice A 0 c] w _ from AnyG.slices_Compact_int_empty shelf_compact A c w).mono ?_
    rintro e w' ⟨rfl, rfl⟩
    exact ⟨A, c, S, rfl, HM⟩
  · obtain ⟨b, off, rfl, hb, hlt, hH, hI, hput⟩ := so_row (so_of_o (HM.get (i := 0) rfl)) hx
    have hcap := (so_of_o (HM.get (i := 0) rfl)).1
    refine (show Calls Try.prog 157 #[.slice (some ⟨b, off, none⟩) a.length c] w _ from AnyG.slices_Compact_int shelf_compact b off c a w hH (by omega) hcap).mono ?_
    rintro e w' ⟨rfl, n, rfl⟩
    have hle := compI_le a
    obtain ⟨h1, h2⟩ := hput (compI a ++ List.replicate (a.length - (compI a).length) 0) n #[] (by simp; omega) fun y hy => by
      rcases List.mem_append.1 hy with h | h
      · exact hI y (compI_mem.1 h)
      · rw [(List.mem_replicate.1 h).2]; exact ⟨by omega, by omega⟩
    rw [Go.Sort.grow_empty] at h1 h2
    have h3 := h1.take (compI a).length
    rw [List.take_left] at h3
    exact ⟨_, c, S, rfl, HM.mut (i := 0) rfl h2 (rSo eInt S (some ⟨b, off, none⟩) c (compI a)) (oSl h3) fun _ hb => .inl hb⟩

/-- A number put to its place among rising ones. -/
def putI (n : Int) : List Int → List Int
  | [] => [n]
  | x :: xs => if n ≤ x then (if n < x then n :: x :: xs else x :: xs) else x :: putI n xs

def put2 (o : List Int) (n : Int) : List Int := putI n o

theorem putI_mem {n y : Int} : ∀ {xs : List Int}, y ∈ putI n xs ↔ y = n ∨ y ∈ xs
  | [] => by simp [putI]
  | x :: xs => by
    rw [putI]
    split
    · split
      · simp
      · have : n = x := by omega
        subst this; simp
    · rw [List.mem_cons, putI_mem (xs := xs), List.mem_cons]
      constructor
      · rintro (h | h | h) <;> simp [h]
      · rintro (h | h | h) <;> simp [h]

theorem putI_rise {n : Int} : ∀ {xs : List Int}, xs.Pairwise (· < ·) → (putI n xs).Pairwise (· < ·)
  | [], _ => by simp [putI]
  | x :: xs, h => by
    obtain ⟨h1, h2⟩ := List.pairwise_cons.1 h
    rw [putI]
    split
    · split
      · exact List.pairwise_cons.2 ⟨fun y hy => by
          rcases List.mem_cons.1 hy with rfl | hy
          · assumption
          · have := h1 y hy; omega, h⟩
      · exact h
    · refine List.pairwise_cons.2 ⟨fun y hy => ?_, putI_rise h2⟩
      rcases putI_mem.1 hy with rfl | hy
      · omega
      · exact h1 y hy

theorem putI_len (n : Int) : ∀ xs : List Int, (putI n xs).length ≤ xs.length + 1
  | [] => by simp [putI]
  | x :: xs => by
    have := putI_len n xs
    rw [putI]
    split
    · split <;> simp
    · simp only [List.length_cons]; omega

theorem putI_drop {n : Int} {xs : List Int} {k : Nat} (hk : k < xs.length) : putI n (xs.drop k) = if n ≤ xs[k] then (if n < xs[k] then n :: xs.drop k else xs.drop k) else xs[k] :: putI n (xs.drop (k + 1)) := by
  rw [List.drop_eq_getElem_cons hk, putI]

def putsI (o ns : List Int) : List Int := ns.foldl (fun o n => putI n o) o

theorem putsI_snoc (o ns : List Int) (n : Int) : putsI o (ns ++ [n]) = putI n (putsI o ns) := by simp [putsI, List.foldl_append]

theorem putsI_mem {y : Int} : ∀ {ns o : List Int}, y ∈ putsI o ns ↔ y ∈ o ∨ y ∈ ns
  | [], o => by simp [putsI]
  | n :: ns, o => by
    show y ∈ putsI (putI n o) ns ↔ _
    rw [putsI_mem (ns := ns), putI_mem, List.mem_cons]
    constructor
    · rintro ((h | h) | h) <;> simp [h]
    · rintro (h | h | h) <;> simp [h]

theorem putsI_rise : ∀ {ns o : List Int}, o.Pairwise (· < ·) → (putsI o ns).Pairwise (· < ·)
  | [], _, h => h
  | n :: ns, o, h => putsI_rise (ns := ns) (o := putI n o) (putI_rise h)

theorem putsI_len : ∀ (ns o : List Int), (putsI o ns).length ≤ o.length + ns.length
  | [], o => by simp [putsI]
  | n :: ns, o => by
    have h1 := putsI_len ns (putI n o)
    have h2 := putI_len n o
    show (putsI (putI n o) ns).length ≤ _
    simp only [List.length_cons]; omega

/-- Sorted and once each: the same as put one by one. -/
theorem compI_sortI (xs : List Int) : compI (sortI xs) = putsI [] xs :=
  rise_ext (compI_rise (sortI_rise xs)) (putsI_rise List.Pairwise.nil) fun x => by rw [compI_mem, sortI_mem, putsI_mem]; simp

set_option maxRecDepth 100000 in
set_option maxHeartbeats 4000000 in
theorem spec_l00Put (A0 : Option Addr) (c0 : Nat) (a0 : (List Int)) (a1 : Int) (w : World) (h0 : Sl eInt w (Old w) A0 c0 a0) (s0 : a0.length ≤ 100000000) (s1 : I64 a1) :
    Calls Try.prog 155 #[.slice A0 a0.length c0, .int .i64 a1] w fun e w' => ∃ (A0' : Option Addr) (c0' : Nat), e = .returned (.slice A0' (put2 a0 a1).length c0') ∧ So eInt w' (Fr w w') A0' c0' (put2 a0 a1) ∧ Below w.heap.size w w' := by
  have l0 := h0.len
  unfold I64 at s1
  have HH1 := Held.start Nob w
  refine enter (n := 49) Try.func155 rfl rfl rfl fun a_2 HE3 => ?_
  refine wp_seq ?_
  refine rg ?_
  refine pl_x HE3 HH1 (wt0 rfl) (x_assign rfl) rfl rfl fun a_4 HE5 => ?_
  refine wpList_nil ?_
  clear a_2 HE3
  refine nrm ?_
  refine wp_seq ?_
  refine rg ?_
  refine pl fun K_6 hK7 => ?_
  refine st_lit (m := 0) (cs := []) (e := 2) HE5 HH1 (run_lit ts_31 HE5 (vs := []) rfl rfl (by simp [Value.cells]) rfl (by decide)) (wt0 rfl) rfl rfl fun q21 a_8 w' HE9 HH10 => hK7 _ _ ?_
  refine pl_x HE9 HH10 (wt0 rfl) (x_assign rfl) rfl rfl fun a_11 HE12 => ?_
  refine wpList_nil ?_
  clear a_4 HE5 HH1 a_8 HE9 hK7 K_6
  refine nrm ?_
  refine wp_seq ?_
  refine rg ?_
  refine pl_x HE12 HH10 (wt0 rfl) (x_assign rfl) rfl rfl fun a_13 HE14 => ?_
  refine wpList_nil ?_
  clear a_11 HE12
  refine nrm ?_
  refine wp_seq ?_
  refine wp_seq ?_
  refine rg ?_
  refine pl_x HE14 HH10 (wt0 rfl) (x_assign rfl) rfl rfl fun a_15 HE16 => ?_
  refine wpList_nil ?_
  clear a_13 HE14
  refine nrm ?_
  refine wp_block ?_
  have HH17 := Held.vecFlat (E := eInt) (xs := []) (css := []) HH10 rfl (Nat.zero_le _) (fun i x hx => by simp at hx)
  refine lp (fun m a w' => ∃ (k : Nat) (d : Bool) (o : List Int) (A_5 : Option Addr) (c_5 : Nat) (S_5 : Nat → Prop), m = a0.length - k ∧ Env 49 [(5, .slice A_5 (List.length o) c_5), (6, .bool d), (7, .int .i64 (k : Int)), (0, .slice A0 (a0.length) c0), (1, .int .i64 (a1))] a ∧ Held Nob w [rVec eInt 2 S_5 A_5 c_5 o] w' ∧ (k ≤ a0.length) ∧ (putI a1 a0 = o ++ (if d = true then a0.drop k else putI a1 (a0.drop k))) ∧ (o.length + (if d = true then 0 else 1) ≤ k + 1)) (a0.length - (0)) ?_ ?_
  · have E22 : ([]) = ([] : List Int) := by
      first | rfl | simp
    exact ⟨0, false, [], (some ⟨q21, 0, none⟩), (List.length (α := Int) []), (fun b => b = q21), rfl, HE16.sub ⟨(by rw [E22]; rfl), rfl, (lkI rfl (by first | rfl | omega | (simp []; done))), rfl, rfl, trivial⟩, ((HH17.sel [0] (by decide) rfl).to (by first | rfl | (rw [E22]; done) | (rw [E22]; rfl) | (simp only [E22]; done) | (simp only [E22]; rfl))), (by first | omega | assumption | (simp; done) | simp_all), (by simp), (by first | omega | assumption | (simp; done) | simp_all)⟩
  · rintro m a_18 w' ⟨k, d, o, A_5, c_5, S_5, rfl, HE19, HH20, p23_0, p23_1, p23_2⟩
    have ol : o.length ≤ k + 1 := by have := p23_2; split at this <;> omega
    refine wp_seq ?_
    refine wp_seq ?_
    refine rg ?_
    refine pl_x HE19 HH20 (wt0 rfl) (x_move rfl) rfl rfl fun a_21 HE22 => ?_
    refine pl_x HE22 HH20 (wt0 rfl) (x_move rfl) rfl rfl fun a_23 HE24 => ?_
    refine pl_x HE24 HH20 (wt0 rfl) (x_len Try.underlying31 rfl) rfl rfl fun a_25 HE26 => ?_
    refine pl_x HE26 HH20 (wt0 rfl) (x_lss rfl rfl) rfl rfl fun a_27 HE28 => ?_
    refine wpList_nil ?_
    clear HH10 a_15 HE16 HH17 a_18 HE19 a_21 HE22 a_23 HE24 a_25 HE26
    refine nrm ?_
    refine cnd_d HE28 rfl (fun hc24 => ?_) (fun hc24 => ?_)
    · refine wp_skip ?_
      refine nrm ?_
      refine wp_seq ?_
      refine wp_block ?_
      refine wp_seq ?_
      refine wp_seq ?_
      refine rg ?_
      refine pl_x HE28 HH20 (wt0 rfl) (x_move rfl) rfl rfl fun a_29 HE30 => ?_
      refine pl_x HE30 HH20 (wt0 rfl) (x_not rfl) rfl rfl fun a_31 HE32 => ?_
      refine pl_x HE32 HH20 (wt0 rfl) (x_move rfl) rfl rfl fun a_33 HE34 => ?_
      rcases Bool.eq_false_or_eq_true (d) with hc25 | hc25
      · refine pl_no HE34 (wtF HE34 rfl rfl rfl (not_f hc25)) rfl rfl fun a_35 HE36 => ?_
        refine pl_no HE36 (wtF HE36 rfl rfl rfl (not_f hc25)) rfl rfl fun a_37 HE38 => ?_
        refine pl_no HE38 (wtF HE38 rfl rfl rfl (not_f hc25)) rfl rfl fun a_39 HE40 => ?_
        refine pl_no HE40 (wtF HE40 rfl rfl rfl (not_f hc25)) rfl rfl fun a_41 HE42 => ?_
        refine pl_no HE42 (wtF HE42 rfl rfl rfl (not_f hc25)) rfl rfl fun a_43 HE44 => ?_
        refine pl_no HE44 (wtF HE44 rfl rfl rfl (not_f hc25)) rfl rfl fun a_45 HE46 => ?_
        refine pl_x HE46 HH20 (wt0 rfl) (x_pickF rfl (not_f hc25) rfl) rfl rfl fun a_47 HE48 => ?_
        refine wpList_nil ?_
        clear a_27 HE28 a_29 HE30 a_31 HE32 a_33 HE34 a_35 HE36 a_37 HE38 a_39 HE40 a_41 HE42 a_43 HE44 a_45 HE46
        refine nrm ?_
        refine cndF HE48 rfl rfl ?_
        refine wp_skip ?_
        refine nrm ?_
        refine rg ?_
        refine pl_x HE48 HH20 (wt0 rfl) (x_move rfl) rfl rfl fun a_49 HE50 => ?_
        refine pl_x HE50 HH20 (wt0 rfl) (x_move rfl) rfl rfl fun a_51 HE52 => ?_
        refine pl_x HE52 HH20 (wt0 rfl) (x_move rfl) rfl rfl fun a_53 HE54 => ?_
        have ke26 : k < a0.length := by omega
        obtain ⟨be26, fe26, ese26, Ae26, Re26, De26⟩ := el_old h0 ke26
        obtain ⟨e26, xe26⟩ : ∃ x_, x_ = a0[k] := ⟨_, rfl⟩
        rw [← xe26] at Re26
        have Qe26 := Re26
        obtain ⟨rfl, ie26⟩ := Re26
        have je26 := ie26; unfold I64 at je26
        refine pl_x HE54 HH20 (wt0 rfl) (x_indexAddr ts_31 rfl rfl Ae26 rfl ke26) rfl rfl fun a_55 HE56 => ?_
        refine pl_x HE56 HH20 (wt0 rfl) (x_load1 tv_2 rfl (c_old (De26 0 _ rfl))) rfl rfl fun a_57 HE58 => ?_
        refine pl fun K_59 hK60 => ?_
        refine st_lit (m := 1) (cs := [.int .i64 (e26)]) (e := 2) HE58 HH20 (run_lit ts_31 HE58 (vs := [.int .i64 (e26)]) rfl rfl (by simp [Value.cells]) rfl (by decide)) (wt0 rfl) rfl rfl fun q27 a_61 w' HE62 HH63 => hK60 _ _ ?_
        refine pl fun K_64 hK65 => ?_
        refine st_app1F e26 HE62 HH63 ts_31 [1, 0] (by decide) rfl (fun _ => (oI (by exact ⟨by omega, by omega⟩))) rfl rfl (by simp [Value.oneCell']) (by unfold maxLen; first | omega | (simp; done) | (simp; omega)) (by first | omega | (simp; done) | (simp; omega)) (wt0 rfl) rfl fun A28 c29 S30 a_66 w' HE67 HH68 => hK65 _ _ ?_
        refine pl_x HE67 HH68 (wt0 rfl) (x_assign rfl) rfl rfl fun a_69 HE70 => ?_
        refine wpList_nil ?_
        clear a_47 HE48 a_49 HE50 a_51 HE52 a_53 HE54 a_55 HE56 a_57 HE58 HH20 K_59 hK60 a_61 HE62 HH63 a_66 HE67 hK65 K_64
        refine blk_n ?_
        refine nrm ?_
        refine rg ?_
        refine pl_x HE70 HH68 (wt0 rfl) (x_move rfl) rfl rfl fun a_71 HE72 => ?_
        refine pl_x HE72 HH68 (wt0 rfl) (x_add rfl rfl (by exact ⟨by omega, by omega⟩)) rfl rfl fun a_73 HE74 => ?_
        refine pl_x HE74 HH68 (wt0 rfl) (x_assign rfl) rfl rfl fun a_75 HE76 => ?_
        refine wpList_nil ?_
        clear a_69 HE70 a_71 HE72 a_73 HE74
        have E31 : ((o ++ [e26])) = (o ++ [e26]) := by
          first | rfl | simp
        exact nrm ⟨a0.length - (k + 1), (by omega), k + 1, d, (o ++ [e26]), A28, c29, S30, rfl, HE76.sub ⟨(by rw [E31]; rfl), rfl, (lkI rfl (by first | rfl | omega | (simp [p23_0, p23_1, p23_2, hc24, hc25, xe26]; done))), rfl, rfl, trivial⟩, ((HH68.sel [0] (by decide) rfl).to (by first | rfl | (rw [E31]; done) | (rw [E31]; rfl) | (simp only [E31]; done) | (simp only [E31]; rfl))), (by first | omega | assumption | (simp; done) | simp_all), (by rw [p23_1]; first | (rw [if_pos ‹_›, if_pos ‹_›, List.drop_eq_getElem_cons (by omega)]; simp [xe26]; done) | (simp only [Bool.false_eq_true, if_false, if_true, p23_0, p23_1, p23_2, hc24, hc25, xe26]; rw [putI_drop (by omega), ← xe26]; grind [List.drop_eq_getElem_cons])), (by have hq := p23_2; simp only [List.length_append, List.length_cons, List.length_nil]; grind)⟩
      · refine pl_x HE34 HH20 (wtT HE34 rfl rfl rfl (not_t hc25)) (x_move rfl) rfl rfl fun a_77 HE78 => ?_
        refine pl_x HE78 HH20 (wtT HE78 rfl rfl rfl (not_t hc25)) (x_move rfl) rfl rfl fun a_79 HE80 => ?_
        have ke32 : k < a0.length := by omega
        obtain ⟨be32, fe32, ese32, Ae32, Re32, De32⟩ := el_old h0 ke32
        obtain ⟨e32, xe32⟩ : ∃ x_, x_ = a0[k] := ⟨_, rfl⟩
        rw [← xe32] at Re32
        have Qe32 := Re32
        obtain ⟨rfl, ie32⟩ := Re32
        have je32 := ie32; unfold I64 at je32
        refine pl_x HE80 HH20 (wtT HE80 rfl rfl rfl (not_t hc25)) (x_indexAddr ts_31 rfl rfl Ae32 rfl ke32) rfl rfl fun a_81 HE82 => ?_
        refine pl_x HE82 HH20 (wtT HE82 rfl rfl rfl (not_t hc25)) (x_load1 tv_2 rfl (c_old (De32 0 _ rfl))) rfl rfl fun a_83 HE84 => ?_
        refine pl_x HE84 HH20 (wtT HE84 rfl rfl rfl (not_t hc25)) (x_move rfl) rfl rfl fun a_85 HE86 => ?_
        refine pl_x HE86 HH20 (wtT HE86 rfl rfl rfl (not_t hc25)) (x_geq rfl rfl) rfl rfl fun a_87 HE88 => ?_
        refine pl_x HE88 HH20 (wt0 rfl) (x_pickT rfl (not_t hc25) rfl) rfl rfl fun a_89 HE90 => ?_
        refine wpList_nil ?_
        clear a_27 HE28 a_29 HE30 a_31 HE32 a_33 HE34 a_77 HE78 a_79 HE80 a_81 HE82 a_83 HE84 a_85 HE86 a_87 HE88
        refine nrm ?_
        refine cnd_d HE90 rfl (fun hc33 => ?_) (fun hc33 => ?_)
        · refine wp_seq ?_
          refine rg ?_
          refine pl_x HE90 HH20 (wt0 rfl) (x_assign rfl) rfl rfl fun a_91 HE92 => ?_
          refine wpList_nil ?_
          clear a_89 HE90
          refine nrm ?_
          refine wp_seq ?_
          refine rg ?_
          refine pl_x HE92 HH20 (wt0 rfl) (x_move rfl) rfl rfl fun a_93 HE94 => ?_
          refine pl_x HE94 HH20 (wt0 rfl) (x_move rfl) rfl rfl fun a_95 HE96 => ?_
          refine pl_x HE96 HH20 (wt0 rfl) (x_indexAddr ts_31 rfl rfl Ae32 rfl ke32) rfl rfl fun a_97 HE98 => ?_
          refine pl_x HE98 HH20 (wt0 rfl) (x_load1 tv_2 rfl (c_old (De32 0 _ rfl))) rfl rfl fun a_99 HE100 => ?_
          refine pl_x HE100 HH20 (wt0 rfl) (x_move rfl) rfl rfl fun a_101 HE102 => ?_
          refine pl_x HE102 HH20 (wt0 rfl) (x_gtr rfl rfl) rfl rfl fun a_103 HE104 => ?_
          refine wpList_nil ?_
          clear a_91 HE92 a_93 HE94 a_95 HE96 a_97 HE98 a_99 HE100 a_101 HE102
          refine nrm ?_
          refine cnd_d HE104 rfl (fun hc34 => ?_) (fun hc34 => ?_)
          · refine rg ?_
            refine pl_x HE104 HH20 (wt0 rfl) (x_move rfl) rfl rfl fun a_105 HE106 => ?_
            refine pl_x HE106 HH20 (wt0 rfl) (x_move rfl) rfl rfl fun a_107 HE108 => ?_
            refine pl fun K_109 hK110 => ?_
            refine st_lit (m := 1) (cs := [.int .i64 (a1)]) (e := 2) HE108 HH20 (run_lit ts_31 HE108 (vs := [.int .i64 (a1)]) rfl rfl (by simp [Value.cells]) rfl (by decide)) (wt0 rfl) rfl rfl fun q35 a_111 w' HE112 HH113 => hK110 _ _ ?_
            refine pl fun K_114 hK115 => ?_
            refine st_app1F a1 HE112 HH113 ts_31 [1, 0] (by decide) rfl (fun _ => (oI (by exact ⟨by omega, by omega⟩))) rfl rfl (by simp [Value.oneCell']) (by unfold maxLen; first | omega | (simp; done) | (simp; omega)) (by first | omega | (simp; done) | (simp; omega)) (wt0 rfl) rfl fun A36 c37 S38 a_116 w' HE117 HH118 => hK115 _ _ ?_
            refine pl_x HE117 HH118 (wt0 rfl) (x_assign rfl) rfl rfl fun a_119 HE120 => ?_
            refine wpList_nil ?_
            clear a_103 HE104 a_105 HE106 a_107 HE108 HH20 K_109 hK110 a_111 HE112 HH113 a_116 HE117 hK115 K_114
            refine nrm ?_
            refine rg ?_
            refine pl_x HE120 HH118 (wt0 rfl) (x_move rfl) rfl rfl fun a_121 HE122 => ?_
            refine pl_x HE122 HH118 (wt0 rfl) (x_move rfl) rfl rfl fun a_123 HE124 => ?_
            refine pl_x HE124 HH118 (wt0 rfl) (x_move rfl) rfl rfl fun a_125 HE126 => ?_
            refine pl_x HE126 HH118 (wt0 rfl) (x_indexAddr ts_31 rfl rfl Ae32 rfl ke32) rfl rfl fun a_127 HE128 => ?_
            refine pl_x HE128 HH118 (wt0 rfl) (x_load1 tv_2 rfl (c_old (De32 0 _ rfl))) rfl rfl fun a_129 HE130 => ?_
            refine pl fun K_131 hK132 => ?_
            refine st_lit (m := 1) (cs := [.int .i64 (e32)]) (e := 2) HE130 HH118 (run_lit ts_31 HE130 (vs := [.int .i64 (e32)]) rfl rfl (by simp [Value.cells]) rfl (by decide)) (wt0 rfl) rfl rfl fun q39 a_133 w' HE134 HH135 => hK132 _ _ ?_
            refine pl fun K_136 hK137 => ?_
            refine st_app1F e32 HE134 HH135 ts_31 [1, 0] (by decide) rfl (fun _ => (oI (by exact ⟨by omega, by omega⟩))) rfl rfl (by simp [Value.oneCell']) (by unfold maxLen; first | omega | (simp; done) | (simp; omega)) (by first | omega | (simp; done) | (simp; omega)) (wt0 rfl) rfl fun A40 c41 S42 a_138 w' HE139 HH140 => hK137 _ _ ?_
            refine pl_x HE139 HH140 (wt0 rfl) (x_assign rfl) rfl rfl fun a_141 HE142 => ?_
            refine wpList_nil ?_
            clear a_119 HE120 a_121 HE122 a_123 HE124 a_125 HE126 a_127 HE128 a_129 HE130 HH118 K_131 hK132 a_133 HE134 HH135 a_138 HE139 hK137 K_136
            refine blk_n ?_
            refine nrm ?_
            refine rg ?_
            refine pl_x HE142 HH140 (wt0 rfl) (x_move rfl) rfl rfl fun a_143 HE144 => ?_
            refine pl_x HE144 HH140 (wt0 rfl) (x_add rfl rfl (by exact ⟨by omega, by omega⟩)) rfl rfl fun a_145 HE146 => ?_
            refine pl_x HE146 HH140 (wt0 rfl) (x_assign rfl) rfl rfl fun a_147 HE148 => ?_
            refine wpList_nil ?_
            clear a_141 HE142 a_143 HE144 a_145 HE146
            have E43 : (((o ++ [a1]) ++ [e32])) = ((o ++ [a1]) ++ [e32]) := by
              first | rfl | simp
            exact nrm ⟨a0.length - (k + 1), (by omega), k + 1, true, ((o ++ [a1]) ++ [e32]), A40, c41, S42, rfl, HE148.sub ⟨(by rw [E43]; rfl), rfl, (lkI rfl (by first | rfl | omega | (simp [p23_0, p23_1, p23_2, hc24, hc25, xe32, hc33, hc34]; done))), rfl, rfl, trivial⟩, ((HH140.sel [0] (by decide) rfl).to (by first | rfl | (rw [E43]; done) | (rw [E43]; rfl) | (simp only [E43]; done) | (simp only [E43]; rfl))), (by first | omega | assumption | (simp; done) | simp_all), (by rw [p23_1]; first | (rw [if_pos ‹_›, if_pos ‹_›, List.drop_eq_getElem_cons (by omega)]; simp [xe32]; done) | (simp only [Bool.false_eq_true, if_false, if_true, p23_0, p23_1, p23_2, hc24, hc25, xe32, hc33, hc34]; rw [putI_drop (by omega), ← xe32]; grind [List.drop_eq_getElem_cons])), (by have hq := p23_2; simp only [List.length_append, List.length_cons, List.length_nil]; grind)⟩
          · refine wp_skip ?_
            refine nrm ?_
            refine rg ?_
            refine pl_x HE104 HH20 (wt0 rfl) (x_move rfl) rfl rfl fun a_149 HE150 => ?_
            refine pl_x HE150 HH20 (wt0 rfl) (x_move rfl) rfl rfl fun a_151 HE152 => ?_
            refine pl_x HE152 HH20 (wt0 rfl) (x_move rfl) rfl rfl fun a_153 HE154 => ?_
            refine pl_x HE154 HH20 (wt0 rfl) (x_indexAddr ts_31 rfl rfl Ae32 rfl ke32) rfl rfl fun a_155 HE156 => ?_
            refine pl_x HE156 HH20 (wt0 rfl) (x_load1 tv_2 rfl (c_old (De32 0 _ rfl))) rfl rfl fun a_157 HE158 => ?_
            refine pl fun K_159 hK160 => ?_
            refine st_lit (m := 1) (cs := [.int .i64 (e32)]) (e := 2) HE158 HH20 (run_lit ts_31 HE158 (vs := [.int .i64 (e32)]) rfl rfl (by simp [Value.cells]) rfl (by decide)) (wt0 rfl) rfl rfl fun q44 a_161 w' HE162 HH163 => hK160 _ _ ?_
            refine pl fun K_164 hK165 => ?_
            refine st_app1F e32 HE162 HH163 ts_31 [1, 0] (by decide) rfl (fun _ => (oI (by exact ⟨by omega, by omega⟩))) rfl rfl (by simp [Value.oneCell']) (by unfold maxLen; first | omega | (simp; done) | (simp; omega)) (by first | omega | (simp; done) | (simp; omega)) (wt0 rfl) rfl fun A45 c46 S47 a_166 w' HE167 HH168 => hK165 _ _ ?_
            refine pl_x HE167 HH168 (wt0 rfl) (x_assign rfl) rfl rfl fun a_169 HE170 => ?_
            refine wpList_nil ?_
            clear a_103 HE104 a_149 HE150 a_151 HE152 a_153 HE154 a_155 HE156 a_157 HE158 HH20 K_159 hK160 a_161 HE162 HH163 a_166 HE167 hK165 K_164
            refine blk_n ?_
            refine nrm ?_
            refine rg ?_
            refine pl_x HE170 HH168 (wt0 rfl) (x_move rfl) rfl rfl fun a_171 HE172 => ?_
            refine pl_x HE172 HH168 (wt0 rfl) (x_add rfl rfl (by exact ⟨by omega, by omega⟩)) rfl rfl fun a_173 HE174 => ?_
            refine pl_x HE174 HH168 (wt0 rfl) (x_assign rfl) rfl rfl fun a_175 HE176 => ?_
            refine wpList_nil ?_
            clear a_169 HE170 a_171 HE172 a_173 HE174
            have E48 : ((o ++ [e32])) = (o ++ [e32]) := by
              first | rfl | simp
            exact nrm ⟨a0.length - (k + 1), (by omega), k + 1, true, (o ++ [e32]), A45, c46, S47, rfl, HE176.sub ⟨(by rw [E48]; rfl), rfl, (lkI rfl (by first | rfl | omega | (simp [p23_0, p23_1, p23_2, hc24, hc25, xe32, hc33, hc34]; done))), rfl, rfl, trivial⟩, ((HH168.sel [0] (by decide) rfl).to (by first | rfl | (rw [E48]; done) | (rw [E48]; rfl) | (simp only [E48]; done) | (simp only [E48]; rfl))), (by first | omega | assumption | (simp; done) | simp_all), (by rw [p23_1]; first | (rw [if_pos ‹_›, if_pos ‹_›, List.drop_eq_getElem_cons (by omega)]; simp [xe32]; done) | (simp only [Bool.false_eq_true, if_false, if_true, p23_0, p23_1, p23_2, hc24, hc25, xe32, hc33, hc34]; rw [putI_drop (by omega), ← xe32]; grind [List.drop_eq_getElem_cons])), (by have hq := p23_2; simp only [List.length_append, List.length_cons, List.length_nil]; grind)⟩
        · refine wp_skip ?_
          refine nrm ?_
          refine rg ?_
          refine pl_x HE90 HH20 (wt0 rfl) (x_move rfl) rfl rfl fun a_177 HE178 => ?_
          refine pl_x HE178 HH20 (wt0 rfl) (x_move rfl) rfl rfl fun a_179 HE180 => ?_
          refine pl_x HE180 HH20 (wt0 rfl) (x_move rfl) rfl rfl fun a_181 HE182 => ?_
          refine pl_x HE182 HH20 (wt0 rfl) (x_indexAddr ts_31 rfl rfl Ae32 rfl ke32) rfl rfl fun a_183 HE184 => ?_
          refine pl_x HE184 HH20 (wt0 rfl) (x_load1 tv_2 rfl (c_old (De32 0 _ rfl))) rfl rfl fun a_185 HE186 => ?_
          refine pl fun K_187 hK188 => ?_
          refine st_lit (m := 1) (cs := [.int .i64 (e32)]) (e := 2) HE186 HH20 (run_lit ts_31 HE186 (vs := [.int .i64 (e32)]) rfl rfl (by simp [Value.cells]) rfl (by decide)) (wt0 rfl) rfl rfl fun q49 a_189 w' HE190 HH191 => hK188 _ _ ?_
          refine pl fun K_192 hK193 => ?_
          refine st_app1F e32 HE190 HH191 ts_31 [1, 0] (by decide) rfl (fun _ => (oI (by exact ⟨by omega, by omega⟩))) rfl rfl (by simp [Value.oneCell']) (by unfold maxLen; first | omega | (simp; done) | (simp; omega)) (by first | omega | (simp; done) | (simp; omega)) (wt0 rfl) rfl fun A50 c51 S52 a_194 w' HE195 HH196 => hK193 _ _ ?_
          refine pl_x HE195 HH196 (wt0 rfl) (x_assign rfl) rfl rfl fun a_197 HE198 => ?_
          refine wpList_nil ?_
          clear a_89 HE90 a_177 HE178 a_179 HE180 a_181 HE182 a_183 HE184 a_185 HE186 HH20 K_187 hK188 a_189 HE190 HH191 a_194 HE195 hK193 K_192
          refine blk_n ?_
          refine nrm ?_
          refine rg ?_
          refine pl_x HE198 HH196 (wt0 rfl) (x_move rfl) rfl rfl fun a_199 HE200 => ?_
          refine pl_x HE200 HH196 (wt0 rfl) (x_add rfl rfl (by exact ⟨by omega, by omega⟩)) rfl rfl fun a_201 HE202 => ?_
          refine pl_x HE202 HH196 (wt0 rfl) (x_assign rfl) rfl rfl fun a_203 HE204 => ?_
          refine wpList_nil ?_
          clear a_197 HE198 a_199 HE200 a_201 HE202
          have E53 : ((o ++ [e32])) = (o ++ [e32]) := by
            first | rfl | simp
          exact nrm ⟨a0.length - (k + 1), (by omega), k + 1, d, (o ++ [e32]), A50, c51, S52, rfl, HE204.sub ⟨(by rw [E53]; rfl), rfl, (lkI rfl (by first | rfl | omega | (simp [p23_0, p23_1, p23_2, hc24, hc25, xe32, hc33]; done))), rfl, rfl, trivial⟩, ((HH196.sel [0] (by decide) rfl).to (by first | rfl | (rw [E53]; done) | (rw [E53]; rfl) | (simp only [E53]; done) | (simp only [E53]; rfl))), (by first | omega | assumption | (simp; done) | simp_all), (by rw [p23_1]; first | (rw [if_pos ‹_›, if_pos ‹_›, List.drop_eq_getElem_cons (by omega)]; simp [xe32]; done) | (simp only [Bool.false_eq_true, if_false, if_true, p23_0, p23_1, p23_2, hc24, hc25, xe32, hc33]; rw [putI_drop (by omega), ← xe32]; grind [List.drop_eq_getElem_cons])), (by have hq := p23_2; simp only [List.length_append, List.length_cons, List.length_nil]; grind)⟩
    · refine wp_exit ?_
      refine (thn_exit (thn_exit (blk_hit ?_)))
      refine nrm ?_
      refine wp_seq ?_
      refine wp_seq ?_
      refine rg ?_
      refine pl_x HE28 HH20 (wt0 rfl) (x_move rfl) rfl rfl fun a_205 HE206 => ?_
      refine pl_x HE206 HH20 (wt0 rfl) (x_not rfl) rfl rfl fun a_207 HE208 => ?_
      refine wpList_nil ?_
      clear a_27 HE28 a_205 HE206
      refine nrm ?_
      refine cnd_nb HE208 rfl (fun hc54 => ?_) (fun hc54 => ?_)
      · refine rg ?_
        refine pl_x HE208 HH20 (wt0 rfl) (x_move rfl) rfl rfl fun a_209 HE210 => ?_
        refine pl_x HE210 HH20 (wt0 rfl) (x_move rfl) rfl rfl fun a_211 HE212 => ?_
        refine pl fun K_213 hK214 => ?_
        refine st_lit (m := 1) (cs := [.int .i64 (a1)]) (e := 2) HE212 HH20 (run_lit ts_31 HE212 (vs := [.int .i64 (a1)]) rfl rfl (by simp [Value.cells]) rfl (by decide)) (wt0 rfl) rfl rfl fun q55 a_215 w' HE216 HH217 => hK214 _ _ ?_
        refine pl fun K_218 hK219 => ?_
        refine st_app1F a1 HE216 HH217 ts_31 [1, 0] (by decide) rfl (fun _ => (oI (by exact ⟨by omega, by omega⟩))) rfl rfl (by simp [Value.oneCell']) (by unfold maxLen; first | omega | (simp; done) | (simp; omega)) (by first | omega | (simp; done) | (simp; omega)) (wt0 rfl) rfl fun A56 c57 S58 a_220 w' HE221 HH222 => hK219 _ _ ?_
        refine pl_x HE221 HH222 (wt0 rfl) (x_assign rfl) rfl rfl fun a_223 HE224 => ?_
        refine wpList_nil ?_
        clear a_207 HE208 a_209 HE210 a_211 HE212 HH20 K_213 hK214 a_215 HE216 HH217 a_220 HE221 hK219 K_218
        refine nrm ?_
        refine wp_seq ?_
        refine rg ?_
        refine pl_x HE224 HH222 (wt0 rfl) (x_move rfl) rfl rfl fun a_225 HE226 => ?_
        refine pl_x HE226 HH222 (wt0 rfl) (x_assign rfl) rfl rfl fun a_227 HE228 => ?_
        refine wpList_nil ?_
        clear a_223 HE224 a_225 HE226
        refine nrm ?_
        refine wp_ret ?_
        refine ret1 HE228 rfl (rv_tmp rfl) ?_
        have HH229 := HH222.vecSo
        have hF : (put2 a0 a1) = (o ++ [a1]) := by
          unfold put2; rw [p23_1, List.drop_of_length_le (by omega)]; simp [p23_0, p23_1, p23_2, hc24, hc54, putI]
        exact ⟨A56, c57, by first | (rw [hF] <;> rfl) | rfl | (rw [hF]; simp only [Ending.returned.injEq, Value.slice.injEq, true_and, and_true]; first | omega | (simp; done)), by rw [hF]; exact (HH229.so (i := 0) rfl), HH229.below⟩
      · refine wp_skip ?_
        refine nrm ?_
        refine wp_seq ?_
        refine rg ?_
        refine pl_x HE208 HH20 (wt0 rfl) (x_move rfl) rfl rfl fun a_230 HE231 => ?_
        refine pl_x HE231 HH20 (wt0 rfl) (x_assign rfl) rfl rfl fun a_232 HE233 => ?_
        refine wpList_nil ?_
        clear a_207 HE208 a_230 HE231
        refine nrm ?_
        refine wp_ret ?_
        refine ret1 HE233 rfl (rv_tmp rfl) ?_
        have HH234 := HH20.vecSo
        have hF : (put2 a0 a1) = o := by
          unfold put2; rw [p23_1, List.drop_of_length_le (by omega)]; simp [p23_0, p23_1, p23_2, hc24, hc54, putI]
        exact ⟨A_5, c_5, by first | (rw [hF] <;> rfl) | rfl | (rw [hF]; simp only [Ending.returned.injEq, Value.slice.injEq, true_and, and_true]; first | omega | (simp; done)), by rw [hF]; exact (HH234.so (i := 0) rfl), HH234.below⟩

def regN (x : tInstr) : Int := x.2.1

def regsOf (p : List tInstr) : List Int × Int := if validProg p = true then (putsI [] (p.map regN), 0) else ([], 1)

theorem regsOf_ct (p : List tInstr) : (ct_L (regsOf p).1 : Int) ≤ 1000000000 := by
  rw [ct_L_len]
  unfold regsOf
  split
  · rename_i h
    have h1 := (validProg_okP h).1
    have h2 := putsI_len (p.map regN) []
    rw [List.length_map] at h2
    simp at h2
    simp only; omega
  · simp

set_option maxRecDepth 100000 in
set_option maxHeartbeats 4000000 in
theorem impl_RegistersOf (A0 : Option Addr) (c0 : Nat) (a0 : (List tInstr)) (w : World) (h0 : Sl eInstr w (Old w) A0 c0 a0) :
    Calls Try.prog 73 #[.slice A0 a0.length c0] w fun e w' => ∃ (A0' : Option Addr) (c0' : Nat), e = .returned (.tuple #[.slice A0' (regsOf a0).1.length c0', .int .i64 (regsOf a0).2]) ∧ So eInt w' (Fr w w') A0' c0' (regsOf a0).1 ∧ Below w.heap.size w w' := by
  have l0 := h0.len
  have HH1 := Held.start Nob w
  refine enter (n := 27) Try.func73 rfl rfl rfl fun a_2 HE3 => ?_
  refine wp_seq ?_
  refine rg ?_
  refine pl_x HE3 HH1 (wt0 rfl) (x_assign rfl) rfl rfl fun a_4 HE5 => ?_
  refine pl_x HE5 HH1 (wt0 rfl) (x_assign rfl) rfl rfl fun a_6 HE7 => ?_
  refine wpList_nil ?_
  clear a_2 HE3 a_4 HE5
  refine nrm ?_
  refine wp_seq ?_
  refine wp_seq ?_
  refine rg ?_
  refine pl_x HE7 HH1 (wt0 rfl) (x_move rfl) rfl rfl fun a_8 HE9 => ?_
  refine pl fun K_10 hK11 => ?_
  refine st_call HE9 (wt0 rfl) rfl rfl rfl en_85 rfl rfl (impl_ValidProgram _ _ a0 _ (HH1.old h0)) fun e w' hr => ?_
  obtain ⟨rfl, hbr21⟩ := hr
  have HH12 := HH1.on hbr21
  refine ⟨_, rfl, fun a_13 HE14 => hK11 _ _ ?_⟩
  refine pl_x HE14 HH12 (wt0 rfl) (x_not rfl) rfl rfl fun a_15 HE16 => ?_
  refine wpList_nil ?_
  clear a_6 HE7 HH1 a_8 HE9 a_13 HE14 hK11 K_10
  refine nrm ?_
  refine cnd_nb HE16 rfl (fun hc22 => ?_) (fun hc22 => ?_)
  · refine wp_seq ?_
    refine rg ?_
    refine pl_x HE16 HH12 (wt0 rfl) (x_assign rfl) rfl rfl fun a_17 HE18 => ?_
    refine pl_x HE18 HH12 (wt0 rfl) (x_assign rfl) rfl rfl fun a_19 HE20 => ?_
    refine wpList_nil ?_
    clear a_15 HE16 a_17 HE18
    refine nrm ?_
    refine wp_ret ?_
    refine (thn_ret ?_)
    refine ret2 HE20 rfl (rv_tmp rfl) (rv_tmp rfl) ?_
    have hF : (regsOf a0) = ([], 1) := by
      first | (simp [regsOf, hc22]; done) | (unfold regsOf; rw [if_pos ‹_›, compI_sortI, List.take_of_length_le (by omega)])
    exact ⟨none, 0, by first | (rw [hF] <;> rfl) | rfl | (rw [hF]; simp only [Ending.returned.injEq, Value.slice.injEq, true_and, and_true]; first | omega | (simp; done)), by rw [hF]; exact (So.nil (Nat.zero_le _)), HH12.below⟩
  · have hok := validProg_okP hc22
    have hlen := hok.1
    refine wp_skip ?_
    refine nrm ?_
    refine wp_seq ?_
    refine rg ?_
    refine pl fun K_21 hK22 => ?_
    refine st_lit (m := 0) (cs := []) (e := 2) HE16 HH12 (run_lit ts_31 HE16 (vs := []) rfl rfl (by simp [Value.cells]) rfl (by decide)) (wt0 rfl) rfl rfl fun q23 a_23 w' HE24 HH25 => hK22 _ _ ?_
    refine pl_x HE24 HH25 (wt0 rfl) (x_assign rfl) rfl rfl fun a_26 HE27 => ?_
    refine wpList_nil ?_
    clear a_15 HE16 HH12 a_23 HE24 hK22 K_21
    refine nrm ?_
    refine wp_seq ?_
    refine wp_seq ?_
    refine rg ?_
    refine pl_x HE27 HH25 (wt0 rfl) (x_move rfl) rfl rfl fun a_28 HE29 => ?_
    refine pl_x HE29 HH25 (wt0 rfl) (x_len Try.underlying24 rfl) rfl rfl fun a_30 HE31 => ?_
    refine pl_x HE31 HH25 (wt0 rfl) (x_move rfl) rfl rfl fun a_32 HE33 => ?_
    refine wpList_nil ?_
    clear a_26 HE27 a_28 HE29 a_30 HE31
    refine nrm ?_
    refine wp_block ?_
    have HH34 := Held.vecFlat (E := eInt) (xs := []) (css := []) HH25 rfl (Nat.zero_le _) (fun i x hx => by simp at hx)
    refine lp (fun m a w' => ∃ (k : Nat) (A_4 : Option Addr) (c_4 : Nat) (S_4 : Nat → Prop), m = a0.length - k ∧ Env 27 [(4, .slice A_4 (List.length ((a0.take k).map regN)) c_4), (13, .int .i64 (k : Int)), (11, .slice A0 (a0.length) c0), (12, .int .i64 ((a0.length : Int)))] a ∧ Held Nob w [rVec eInt 2 S_4 A_4 c_4 ((a0.take k).map regN)] w' ∧ (k ≤ a0.length)) (a0.length - (0)) ?_ ?_
    · have E24 : (a0.take 0).map regN = ([] : List Int) := by
        first | rfl | simp
      exact ⟨0, (some ⟨q23, 0, none⟩), (List.length (α := Int) []), (fun b => b = q23), rfl, HE33.sub ⟨(by rw [E24]; rfl), (lkI rfl (by first | rfl | omega | (simp [hc22]; done))), rfl, rfl, trivial⟩, ((HH34.sel [0] (by decide) rfl).to (by first | rfl | (rw [E24]; done) | (rw [E24]; rfl) | (simp only [E24]; done) | (simp only [E24]; rfl))), (by first | omega | assumption | (simp; done) | simp_all)⟩
    · rintro m a_35 w' ⟨k, A_4, c_4, S_4, rfl, HE36, HH37, p25_0⟩
      have ol : ((a0.take k).map regN).length ≤ 400 := by rw [List.length_map, List.length_take]; omega
      refine wp_seq ?_
      refine rg ?_
      refine pl_x HE36 HH37 (wt0 rfl) (x_lss rfl rfl) rfl rfl fun a_38 HE39 => ?_
      refine wpList_nil ?_
      clear HH25 a_32 HE33 HH34 a_35 HE36
      refine nrm ?_
      refine wp_seq ?_
      refine cnd_d HE39 rfl (fun hc26 => ?_) (fun hc26 => ?_)
      · refine wp_skip ?_
        refine nrm ?_
        refine wp_seq ?_
        refine wp_block ?_
        refine wp_seq ?_
        refine rg ?_
        have ke27 : k < a0.length := by omega
        obtain ⟨be27, fe27, ese27, Ae27, Re27, De27⟩ := el_old h0 ke27
        obtain ⟨e27, xe27⟩ : ∃ x_, x_ = a0[k] := ⟨_, rfl⟩
        rw [← xe27] at Re27
        have Qe27 := Re27
        obtain ⟨rfl, ge27_0, ge27_1, ge27_2, ge27_3⟩ := shape_Instr Re27
        have je27_0 := ge27_0; unfold I64 at je27_0
        have je27_1 := ge27_1; unfold I64 at je27_1
        have je27_2 := ge27_2; unfold I64 at je27_2
        have je27_3 := ge27_3; unfold I64 at je27_3
        refine pl_x HE39 HH37 (wt0 rfl) (x_indexAddr ts_24 rfl rfl Ae27 rfl ke27) rfl rfl fun a_40 HE41 => ?_
        refine pl_x HE41 HH37 (wt0 rfl) (x_loadN (cs := [.int .i64 (e27.1), .int .i64 (e27.2.1), .int .i64 (e27.2.2.1), .int .i64 (e27.2.2.2)]) tv_116 rfl rfl (c_oldN De27)) rfl rfl fun a_42 HE43 => ?_
        refine pl fun K_44 hK45 => ?_
        refine st_alloc HE43 HH37 tv_116 (wt0 rfl) rfl fun q28 a_46 w' HE47 HH48 => hK45 _ _ ?_
        refine pl fun K_49 hK50 => ?_
        refine st_store (vs := [.int .i64 (e27.1), .int .i64 (e27.2.1), .int .i64 (e27.2.2.1), .int .i64 (e27.2.2.2)]) 0 HE47 HH48 tv_116 rfl rfl rfl rfl rfl rfl (by simp [Value.oneCell']) (wt0 rfl) fun w' HH51 => hK50 _ _ ?_
        refine wpList_nil ?_
        clear a_38 HE39 a_40 HE41 a_42 HE43 HH37 K_44 hK45 HH48 hK50 K_49
        refine nrm ?_
        refine rg ?_
        refine pl_x HE47 HH51 (wt0 rfl) (x_move rfl) rfl rfl fun a_52 HE53 => ?_
        refine pl_x HE53 HH51 (wt0 rfl) (x_fieldAddr fa_116_1 rfl) rfl rfl fun a_54 HE55 => ?_
        refine pl_x HE55 HH51 (wt0 rfl) (x_load1 tv_2 rfl (c_blk 0 rfl rfl)) rfl rfl fun a_56 HE57 => ?_
        refine pl fun K_58 hK59 => ?_
        refine st_lit (m := 1) (cs := [.int .i64 (e27.2.1)]) (e := 2) HE57 HH51 (run_lit ts_31 HE57 (vs := [.int .i64 (e27.2.1)]) rfl rfl (by simp [Value.cells]) rfl (by decide)) (wt0 rfl) rfl rfl fun q29 a_60 w' HE61 HH62 => hK59 _ _ ?_
        refine pl fun K_63 hK64 => ?_
        refine st_app1F e27.2.1 HE61 HH62 ts_31 [2, 0, 1] (by decide) rfl (fun _ => (oI (by exact ⟨by omega, by omega⟩))) rfl rfl (by simp [Value.oneCell']) (by unfold maxLen; first | omega | (simp; done) | (simp; omega)) (by first | omega | (simp; done) | (simp; omega)) (wt0 rfl) rfl fun A30 c31 S32 a_65 w' HE66 HH67 => hK64 _ _ ?_
        refine pl_x HE66 HH67 (wt0 rfl) (x_assign rfl) rfl rfl fun a_68 HE69 => ?_
        refine wpList_nil ?_
        clear a_46 HE47 a_52 HE53 a_54 HE55 a_56 HE57 HH51 K_58 hK59 a_60 HE61 HH62 a_65 HE66 hK64 K_63
        refine blk_n ?_
        refine nrm ?_
        refine rg ?_
        refine pl_x HE69 HH67 (wt0 rfl) (x_add rfl rfl (by exact ⟨by omega, by omega⟩)) rfl rfl fun a_70 HE71 => ?_
        refine pl_x HE71 HH67 (wt0 rfl) (x_move rfl) rfl rfl fun a_72 HE73 => ?_
        refine wpList_nil ?_
        clear a_68 HE69 a_70 HE71
        have E33 : (a0.take (k + 1)).map regN = ((a0.take k).map regN ++ [e27.2.1]) := by
          rw [List.take_succ_eq_append_getElem (by omega), List.map_append, ← xe27]; rfl
        exact nrm ⟨a0.length - (k + 1), (by omega), k + 1, A30, c31, S32, rfl, HE73.sub ⟨(by rw [E33]; rfl), (lkI rfl (by first | rfl | omega | (simp [hc22, p25_0, hc26, xe27]; done))), rfl, rfl, trivial⟩, ((HH67.sel [0] (by decide) rfl).to (by first | rfl | (rw [E33]; done) | (rw [E33]; rfl) | (simp only [E33]; done) | (simp only [E33]; rfl))), (by first | omega | assumption | (simp; done) | simp_all)⟩
      · refine wp_exit ?_
        refine (thn_exit (thn_exit (blk_hit ?_)))
        refine nrm ?_
        refine wp_seq ?_
        refine rg ?_
        refine pl_x HE39 HH37 (wt0 rfl) (x_move rfl) rfl rfl fun a_74 HE75 => ?_
        refine pl fun K_76 hK77 => ?_
        have HH78 := HH37.vecSo
        have HH79 : Held Nob w ([rSo eInt S_4 A_4 c_4 ((a0.take k).map regN)] ++ []) _ := HH78
        refine st_call HE75 (wt0 rfl) rfl rfl rfl en_156 rfl rfl (Sort_Int64 (Foot [rSo eInt S_4 A_4 c_4 ((a0.take k).map regN)]) _ _ ((a0.take k).map regN) _ _ HH79.focus (by omega)) fun e w' hr => ?_
        obtain ⟨Sr34_0, rfl, hbr34⟩ := hr
        have HH80 := HH79.back hbr34
        clear hbr34
        have HH81 : Held Nob w ([rSo eInt Sr34_0 A_4 c_4 (sortI ((a0.take k).map regN))] ++ []) _ := HH80
        have hAr34_0 := sortI_len ((a0.take k).map regN)
        refine ⟨_, rfl, fun a_82 HE83 => hK77 _ _ ?_⟩
        refine wpList_nil ?_
        clear a_38 HE39 HH37 HH78 HH79 HH80 a_74 HE75 hK77 K_76
        refine nrm ?_
        refine wp_seq ?_
        refine rg ?_
        refine pl_x HE83 HH81 (wt0 rfl) (x_move rfl) rfl rfl fun a_84 HE85 => ?_
        refine pl fun K_86 hK87 => ?_
        have HE88 := HE85.castS (t := 25) (m' := List.length (sortI ((a0.take k).map regN))) rfl (by first | omega | (simp; done) | (simp; omega))
        have HH89 : Held Nob w ([rSo eInt Sr34_0 A_4 c_4 (sortI ((a0.take k).map regN))] ++ []) _ := HH81
        refine st_call HE88 (wt0 rfl) rfl rfl rfl en_157 rfl rfl (Compact_Int64 (Foot [rSo eInt Sr34_0 A_4 c_4 (sortI ((a0.take k).map regN))]) _ _ (sortI ((a0.take k).map regN)) _ _ HH89.focus (by omega)) fun e w' hr => ?_
        obtain ⟨Ar35_90, cr35_90, Sr35_90, rfl, hbr35⟩ := hr
        have HH90 := HH89.back hbr35
        clear hbr35
        have HH91 : Held Nob w ([rSo eInt Sr35_90 Ar35_90 cr35_90 (compI (sortI ((a0.take k).map regN)))] ++ []) _ := HH90
        have hAr35_0 := compI_le (sortI ((a0.take k).map regN))
        refine ⟨_, rfl, fun a_92 HE93 => hK87 _ _ ?_⟩
        refine pl_x HE93 HH91 (wt0 rfl) (x_assign rfl) rfl rfl fun a_94 HE95 => ?_
        refine pl_x HE95 HH91 (wt0 rfl) (x_assign rfl) rfl rfl fun a_96 HE97 => ?_
        refine wpList_nil ?_
        clear a_82 HE83 HE85 HH81 HH89 HH90 a_84 HE88 a_92 HE93 a_94 HE95 hK87 K_86
        refine nrm ?_
        refine wp_ret ?_
        refine ret2 HE97 rfl (rv_tmp rfl) (rv_tmp rfl) ?_
        have hF : (regsOf a0) = ((compI (sortI ((a0.take k).map regN))), 0) := by
          first | (simp [regsOf, hc22, p25_0, hc26]; done) | (unfold regsOf; rw [if_pos ‹_›, compI_sortI, List.take_of_length_le (by omega)])
        exact ⟨Ar35_90, cr35_90, by first | (rw [hF] <;> rfl) | rfl | (rw [hF]; simp only [Ending.returned.injEq, Value.slice.injEq, true_and, and_true]; first | omega | (simp; done)), by rw [hF]; exact (HH91.so (i := 0) rfl), HH91.below⟩

set_option maxRecDepth 100000 in
set_option maxHeartbeats 4000000 in
theorem spec_RegistersOf (A0 : Option Addr) (c0 : Nat) (a0 : (List tInstr)) (w : World) (h0 : Sl eInstr w (Old w) A0 c0 a0) :
    Calls Try.prog 72 #[.slice A0 a0.length c0] w fun e w' => ∃ (A0' : Option Addr) (c0' : Nat), e = .returned (.tuple #[.slice A0' (regsOf a0).1.length c0', .int .i64 (regsOf a0).2]) ∧ So eInt w' (Fr w w') A0' c0' (regsOf a0).1 ∧ Below w.heap.size w w' := by
  have l0 := h0.len
  have HH1 := Held.start Nob w
  refine enter (n := 24) Try.func72 rfl rfl rfl fun a_2 HE3 => ?_
  refine wp_seq ?_
  refine rg ?_
  refine pl_x HE3 HH1 (wt0 rfl) (x_assign rfl) rfl rfl fun a_4 HE5 => ?_
  refine pl_x HE5 HH1 (wt0 rfl) (x_assign rfl) rfl rfl fun a_6 HE7 => ?_
  refine wpList_nil ?_
  clear a_2 HE3 a_4 HE5
  refine nrm ?_
  refine wp_seq ?_
  refine wp_seq ?_
  refine rg ?_
  refine pl_x HE7 HH1 (wt0 rfl) (x_move rfl) rfl rfl fun a_8 HE9 => ?_
  refine pl fun K_10 hK11 => ?_
  refine st_call HE9 (wt0 rfl) rfl rfl rfl en_81 rfl rfl (spec_l07Is _ _ a0 _ (HH1.old h0)) fun e w' hr => ?_
  obtain ⟨rfl, hbr21⟩ := hr
  have HH12 := HH1.on hbr21
  refine ⟨_, rfl, fun a_13 HE14 => hK11 _ _ ?_⟩
  refine pl_x HE14 HH12 (wt0 rfl) (x_not rfl) rfl rfl fun a_15 HE16 => ?_
  refine wpList_nil ?_
  clear a_6 HE7 HH1 a_8 HE9 a_13 HE14 hK11 K_10
  refine nrm ?_
  refine cnd_nb HE16 rfl (fun hc22 => ?_) (fun hc22 => ?_)
  · refine wp_seq ?_
    refine rg ?_
    refine pl_x HE16 HH12 (wt0 rfl) (x_assign rfl) rfl rfl fun a_17 HE18 => ?_
    refine pl_x HE18 HH12 (wt0 rfl) (x_assign rfl) rfl rfl fun a_19 HE20 => ?_
    refine wpList_nil ?_
    clear a_15 HE16 a_17 HE18
    refine nrm ?_
    refine wp_ret ?_
    refine (thn_ret ?_)
    refine ret2 HE20 rfl (rv_tmp rfl) (rv_tmp rfl) ?_
    have hF : (regsOf a0) = ([], 1) := by
      first | (simp [regsOf, hc22]; done) | (unfold regsOf; rw [if_pos ‹_›, List.take_of_length_le (by omega)])
    exact ⟨none, 0, by first | (rw [hF] <;> rfl) | rfl | (rw [hF]; simp only [Ending.returned.injEq, Value.slice.injEq, true_and, and_true]; first | omega | (simp; done)), by rw [hF]; exact (So.nil (Nat.zero_le _)), HH12.below⟩
  · have hok := validProg_okP hc22
    have hlen := hok.1
    refine wp_skip ?_
    refine nrm ?_
    refine wp_seq ?_
    refine rg ?_
    refine pl fun K_21 hK22 => ?_
    refine st_lit (m := 0) (cs := []) (e := 2) HE16 HH12 (run_lit ts_31 HE16 (vs := []) rfl rfl (by simp [Value.cells]) rfl (by decide)) (wt0 rfl) rfl rfl fun q23 a_23 w' HE24 HH25 => hK22 _ _ ?_
    refine pl_x HE24 HH25 (wt0 rfl) (x_assign rfl) rfl rfl fun a_26 HE27 => ?_
    refine wpList_nil ?_
    clear a_15 HE16 HH12 a_23 HE24 hK22 K_21
    refine nrm ?_
    refine wp_seq ?_
    refine wp_seq ?_
    refine rg ?_
    refine pl_x HE27 HH25 (wt0 rfl) (x_assign rfl) rfl rfl fun a_28 HE29 => ?_
    refine wpList_nil ?_
    clear a_26 HE27
    refine nrm ?_
    refine wp_block ?_
    have HH30 := Held.vecFlat (E := eInt) (xs := []) (css := []) HH25 rfl (Nat.zero_le _) (fun i x hx => by simp at hx)
    have HH31 := HH30.vecSo
    refine lp (fun m a w' => ∃ (k : Nat) (A_4 : Option Addr) (c_4 : Nat) (S_4 : Nat → Prop), m = a0.length - k ∧ Env 24 [(4, .slice A_4 (List.length (putsI [] ((a0.take k).map regN))) c_4), (5, .int .i64 (k : Int)), (0, .slice A0 (a0.length) c0)] a ∧ Held Nob w [rSo eInt S_4 A_4 c_4 (putsI [] ((a0.take k).map regN))] w' ∧ (k ≤ a0.length)) (a0.length - (0)) ?_ ?_
    · have E24 : putsI [] ((a0.take 0).map regN) = ([] : List Int) := by
        first | rfl | simp
      exact ⟨0, (some ⟨q23, 0, none⟩), (List.length (α := Int) []), (fun b => b = q23), rfl, HE29.sub ⟨(by rw [E24]; rfl), (lkI rfl (by first | rfl | omega | (simp [hc22]; done))), rfl, trivial⟩, ((HH31.sel [0] (by decide) rfl).to (by first | rfl | (rw [E24]; done) | (rw [E24]; rfl) | (simp only [E24]; done) | (simp only [E24]; rfl))), (by first | omega | assumption | (simp; done) | simp_all)⟩
    · rintro m a_32 w' ⟨k, A_4, c_4, S_4, rfl, HE33, HH34, p25_0⟩
      have ol : (putsI [] ((a0.take k).map regN)).length ≤ 400 := by have := putsI_len ((a0.take k).map regN) []; rw [List.length_map, List.length_take] at this; simp only [List.length_nil, Nat.zero_add] at this; omega
      refine wp_seq ?_
      refine wp_seq ?_
      refine rg ?_
      refine pl_x HE33 HH34 (wt0 rfl) (x_move rfl) rfl rfl fun a_35 HE36 => ?_
      refine pl_x HE36 HH34 (wt0 rfl) (x_move rfl) rfl rfl fun a_37 HE38 => ?_
      refine pl_x HE38 HH34 (wt0 rfl) (x_len Try.underlying24 rfl) rfl rfl fun a_39 HE40 => ?_
      refine pl_x HE40 HH34 (wt0 rfl) (x_lss rfl rfl) rfl rfl fun a_41 HE42 => ?_
      refine wpList_nil ?_
      clear HH25 HH30 a_28 HE29 HH31 a_32 HE33 a_35 HE36 a_37 HE38 a_39 HE40
      refine nrm ?_
      refine cnd_d HE42 rfl (fun hc26 => ?_) (fun hc26 => ?_)
      · refine wp_skip ?_
        refine nrm ?_
        refine wp_seq ?_
        refine wp_block ?_
        refine rg ?_
        refine pl_x HE42 HH34 (wt0 rfl) (x_move rfl) rfl rfl fun a_43 HE44 => ?_
        refine pl_x HE44 HH34 (wt0 rfl) (x_move rfl) rfl rfl fun a_45 HE46 => ?_
        refine pl_x HE46 HH34 (wt0 rfl) (x_move rfl) rfl rfl fun a_47 HE48 => ?_
        have ke27 : k < a0.length := by omega
        obtain ⟨be27, fe27, ese27, Ae27, Re27, De27⟩ := el_old h0 ke27
        obtain ⟨e27, xe27⟩ : ∃ x_, x_ = a0[k] := ⟨_, rfl⟩
        rw [← xe27] at Re27
        have Qe27 := Re27
        obtain ⟨rfl, ge27_0, ge27_1, ge27_2, ge27_3⟩ := shape_Instr Re27
        have je27_0 := ge27_0; unfold I64 at je27_0
        have je27_1 := ge27_1; unfold I64 at je27_1
        have je27_2 := ge27_2; unfold I64 at je27_2
        have je27_3 := ge27_3; unfold I64 at je27_3
        refine pl_x HE48 HH34 (wt0 rfl) (x_indexAddr ts_24 rfl rfl Ae27 rfl ke27) rfl rfl fun a_49 HE50 => ?_
        refine pl_x HE50 HH34 (wt0 rfl) (x_fieldAddr fa_116_1 rfl) rfl rfl fun a_51 HE52 => ?_
        refine pl_x HE52 HH34 (wt0 rfl) (x_load1 tv_2 rfl (c_old (De27 1 _ rfl))) rfl rfl fun a_53 HE54 => ?_
        refine pl fun K_55 hK56 => ?_
        refine st_call HE54 (wt0 rfl) rfl rfl rfl en_155 rfl rfl (spec_l00Put _ _ (putsI [] ((a0.take k).map regN)) e27.2.1 _ (HH34.sl (i := 0) rfl) (by omega) (by exact ⟨by omega, by omega⟩)) fun e w' hr => ?_
        obtain ⟨Ar28_0, cr28_0, rfl, hor28_0, hbr28⟩ := hr
        obtain ⟨Sr28, HH57⟩ := HH34.newS hbr28 hor28_0
        refine ⟨_, rfl, fun a_58 HE59 => hK56 _ _ ?_⟩
        refine pl_x HE59 HH57 (wt0 rfl) (x_assign rfl) rfl rfl fun a_60 HE61 => ?_
        refine wpList_nil ?_
        clear a_41 HE42 a_43 HE44 a_45 HE46 a_47 HE48 a_49 HE50 a_51 HE52 HH34 a_53 HE54 a_58 HE59 hK56 K_55
        refine blk_n ?_
        refine nrm ?_
        refine rg ?_
        refine pl_x HE61 HH57 (wt0 rfl) (x_move rfl) rfl rfl fun a_62 HE63 => ?_
        refine pl_x HE63 HH57 (wt0 rfl) (x_add rfl rfl (by exact ⟨by omega, by omega⟩)) rfl rfl fun a_64 HE65 => ?_
        refine pl_x HE65 HH57 (wt0 rfl) (x_assign rfl) rfl rfl fun a_66 HE67 => ?_
        refine wpList_nil ?_
        clear a_60 HE61 a_62 HE63 a_64 HE65
        have E29 : putsI [] ((a0.take (k + 1)).map regN) = (put2 (putsI [] ((a0.take k).map regN)) e27.2.1) := by
          rw [List.take_succ_eq_append_getElem (by omega), List.map_append, ← xe27]; exact putsI_snoc _ _ _
        exact nrm ⟨a0.length - (k + 1), (by omega), k + 1, Ar28_0, cr28_0, Sr28, rfl, HE67.sub ⟨(by rw [E29]; rfl), (lkI rfl (by first | rfl | omega | (simp [hc22, p25_0, hc26, xe27]; done))), rfl, trivial⟩, ((HH57.sel [0] (by decide) rfl).to (by first | rfl | (rw [E29]; done) | (rw [E29]; rfl) | (simp only [E29]; done) | (simp only [E29]; rfl))), (by first | omega | assumption | (simp; done) | simp_all)⟩
      · refine wp_exit ?_
        refine (thn_exit (thn_exit (blk_hit ?_)))
        refine nrm ?_
        refine wp_seq ?_
        refine rg ?_
        refine pl_x HE42 HH34 (wt0 rfl) (x_move rfl) rfl rfl fun a_68 HE69 => ?_
        refine pl_x HE69 HH34 (wt0 rfl) (x_assign rfl) rfl rfl fun a_70 HE71 => ?_
        refine pl_x HE71 HH34 (wt0 rfl) (x_assign rfl) rfl rfl fun a_72 HE73 => ?_
        refine wpList_nil ?_
        clear a_41 HE42 a_68 HE69 a_70 HE71
        refine nrm ?_
        refine wp_ret ?_
        refine ret2 HE73 rfl (rv_tmp rfl) (rv_tmp rfl) ?_
        have hF : (regsOf a0) = (putsI [] ((a0.take k).map regN), 0) := by
          first | (simp [regsOf, hc22, p25_0, hc26]; done) | (unfold regsOf; rw [if_pos ‹_›, List.take_of_length_le (by omega)])
        exact ⟨A_4, c_4, by first | (rw [hF] <;> rfl) | rfl | (rw [hF]; simp only [Ending.returned.injEq, Value.slice.injEq, true_and, and_true]; first | omega | (simp; done)), by rw [hF]; exact (HH34.so (i := 0) rfl), HH34.below⟩

set_option maxRecDepth 100000 in
set_option maxHeartbeats 4000000 in
theorem law_RegistersOf (A0 : Option Addr) (c0 : Nat) (a0 : (List tInstr)) (w : World) (h0 : Sl eInstr w (Old w) A0 c0 a0) :
    Calls Try.prog 11 #[.slice A0 a0.length c0] w fun e w' => e = .returned (.bool true) ∧ Below w.heap.size w w' := by
  have l0 := h0.len
  have m0 := ct_cost_SInstr a0
  have n0 : (ct_L (regsOf a0).1 : Int) ≤ 1000000000 := regsOf_ct a0
  have HH1 := Held.start Nob w
  refine enter (n := 96) Try.func11 rfl rfl rfl fun a_2 HE3 => ?_
  refine wp_seq ?_
  refine rg ?_
  refine pl_x HE3 HH1 (wt0 rfl) (x_assign rfl) rfl rfl fun a_4 HE5 => ?_
  refine wpList_nil ?_
  clear a_2 HE3
  refine nrm ?_
  refine wp_seq ?_
  refine rg ?_
  refine pl_x HE5 HH1 (wt0 rfl) (x_assign rfl) rfl rfl fun a_6 HE7 => ?_
  refine wpList_nil ?_
  clear a_4 HE5
  refine nrm ?_
  refine wp_seq ?_
  refine rg ?_
  refine pl_x HE7 HH1 (wt0 rfl) (x_move rfl) rfl rfl fun a_8 HE9 => ?_
  refine pl_x HE9 HH1 (wt0 rfl) (x_move rfl) rfl rfl fun a_10 HE11 => ?_
  refine pl fun K_12 hK13 => ?_
  refine st_call HE11 (wt0 rfl) rfl rfl rfl en_15 rfl rfl (sz_InstrS _ _ a0 1048576 _ (HH1.old h0) (by omega) (by omega)) fun e w' hr => ?_
  obtain ⟨rfl, hbr21⟩ := hr
  have HH14 := HH1.on hbr21
  clear hbr21
  refine ⟨_, rfl, fun a_15 HE16 => hK13 _ _ ?_⟩
  refine pl_x HE16 HH14 (wt0 rfl) (x_assign rfl) rfl rfl fun a_17 HE18 => ?_
  refine wpList_nil ?_
  clear a_6 HE7 a_8 HE9 HH1 a_10 HE11 a_15 HE16 hK13 K_12
  refine nrm ?_
  refine wp_seq ?_
  refine wp_seq ?_
  refine rg ?_
  refine pl_x HE18 HH14 (wt0 rfl) (x_move rfl) rfl rfl fun a_19 HE20 => ?_
  refine pl_x HE20 HH14 (wt0 rfl) (x_lss rfl rfl) rfl rfl fun a_21 HE22 => ?_
  refine wpList_nil ?_
  clear a_17 HE18 a_19 HE20
  refine nrm ?_
  refine cnd_d HE22 rfl (fun hc22 => ?_) (fun hc22 => ?_)
  · refine wp_seq ?_
    refine rg ?_
    refine pl_x HE22 HH14 (wt0 rfl) (x_assign rfl) rfl rfl fun a_23 HE24 => ?_
    refine wpList_nil ?_
    clear a_21 HE22
    refine nrm ?_
    refine wp_ret ?_
    refine (thn_ret ?_)
    refine ret1 HE24 rfl (rv_tmp rfl) ?_
    have hF : true = true := by
      first | rfl | (exfalso; omega)
    exact ⟨by first | (rw [hF] <;> rfl) | rfl | (rw [hF]; simp only [Ending.returned.injEq, Value.slice.injEq, true_and, and_true]; first | omega | (simp; done)), HH14.below⟩
  · have zr21 := left_ok hc22
    refine wp_skip ?_
    refine nrm ?_
    refine wp_seq ?_
    refine rg ?_
    refine pl_x HE22 HH14 (wt0 rfl) (x_move rfl) rfl rfl fun a_25 HE26 => ?_
    refine pl fun K_27 hK28 => ?_
    refine st_call HE26 (wt0 rfl) rfl rfl rfl en_17 rfl rfl (to_InstrS _ _ a0 _ (HH14.old h0) (by omega)) fun e w' hr => ?_
    obtain ⟨Ar23, cr23, rfl, hor23, hbr23⟩ := hr
    obtain ⟨Sr23, HH29⟩ := HH14.newS hbr23 hor23
    clear hbr23 hor23
    refine ⟨_, rfl, fun a_30 HE31 => hK28 _ _ ?_⟩
    refine pl fun K_32 hK33 => ?_
    refine st_call HE31 (wt0 rfl) rfl rfl rfl en_72 rfl rfl (spec_RegistersOf _ _ a0 _ (HH29.sl (i := 0) rfl)) fun e w' hr => ?_
    obtain ⟨Ar24_0, cr24_0, rfl, hor24_0, hbr24⟩ := hr
    obtain ⟨Sr24, HH34⟩ := HH29.newS hbr24 hor24_0
    refine ⟨_, rfl, fun a_35 HE36 => hK33 _ _ ?_⟩
    refine pl_x HE36 HH34 (wt0 rfl) (x_move rfl) rfl rfl fun a_37 HE38 => ?_
    refine pl_x HE38 HH34 (wt0 rfl) (x_extract rfl rfl) rfl rfl fun a_39 HE40 => ?_
    refine pl_x HE40 HH34 (wt0 rfl) (x_extract rfl rfl) rfl rfl fun a_41 HE42 => ?_
    refine pl_x HE42 HH34 (wt0 rfl) (x_assign rfl) rfl rfl fun a_43 HE44 => ?_
    refine pl_x HE44 HH34 (wt0 rfl) (x_assign rfl) rfl rfl fun a_45 HE46 => ?_
    refine wpList_nil ?_
    clear a_21 HE22 HH14 a_25 HE26 K_27 hK28 HH29 a_30 HE31 a_35 HE36 a_37 HE38 a_39 HE40 a_41 HE42 a_43 HE44 hK33 K_32
    refine nrm ?_
    refine wp_seq ?_
    refine rg ?_
    refine pl_x HE46 HH34 (wt0 rfl) (x_move rfl) rfl rfl fun a_47 HE48 => ?_
    refine pl fun K_49 hK50 => ?_
    refine st_call HE48 (wt0 rfl) rfl rfl rfl en_17 rfl rfl (to_InstrS _ _ a0 _ (HH34.old h0) (by omega)) fun e w' hr => ?_
    obtain ⟨Ar25, cr25, rfl, hor25, hbr25⟩ := hr
    obtain ⟨Sr25, HH51⟩ := HH34.newS hbr25 hor25
    clear hbr25 hor25
    refine ⟨_, rfl, fun a_52 HE53 => hK50 _ _ ?_⟩
    refine pl_x HE53 HH51 (wt0 rfl) (x_assign rfl) rfl rfl fun a_54 HE55 => ?_
    refine wpList_nil ?_
    clear a_45 HE46 HH34 a_47 HE48 a_52 HE53 hK50 K_49
    refine nrm ?_
    refine wp_seq ?_
    refine rg ?_
    refine pl_x HE55 HH51 (wt0 rfl) (x_move rfl) rfl rfl fun a_56 HE57 => ?_
    refine pl fun K_58 hK59 => ?_
    refine st_call HE57 (wt0 rfl) rfl rfl rfl en_73 rfl rfl (impl_RegistersOf _ _ a0 _ (HH51.sl (i := 0) rfl)) fun e w' hr => ?_
    obtain ⟨Ar26_0, cr26_0, rfl, hor26_0, hbr26⟩ := hr
    obtain ⟨Sr26, HH60⟩ := HH51.newS hbr26 hor26_0
    refine ⟨_, rfl, fun a_61 HE62 => hK59 _ _ ?_⟩
    refine pl_x HE62 HH60 (wt0 rfl) (x_move rfl) rfl rfl fun a_63 HE64 => ?_
    refine pl_x HE64 HH60 (wt0 rfl) (x_extract rfl rfl) rfl rfl fun a_65 HE66 => ?_
    refine pl_x HE66 HH60 (wt0 rfl) (x_extract rfl rfl) rfl rfl fun a_67 HE68 => ?_
    refine pl_x HE68 HH60 (wt0 rfl) (x_assign rfl) rfl rfl fun a_69 HE70 => ?_
    refine pl_x HE70 HH60 (wt0 rfl) (x_assign rfl) rfl rfl fun a_71 HE72 => ?_
    refine wpList_nil ?_
    clear a_54 HE55 HH51 a_56 HE57 a_61 HE62 a_63 HE64 a_65 HE66 a_67 HE68 a_69 HE70 hK59 K_58
    refine nrm ?_
    refine wp_seq ?_
    refine wp_seq ?_
    refine rg ?_
    refine pl_x HE72 HH60 (wt0 rfl) (x_move rfl) rfl rfl fun a_73 HE74 => ?_
    refine pl_x HE74 HH60 (wt0 rfl) (x_move rfl) rfl rfl fun a_75 HE76 => ?_
    refine pl fun K_77 hK78 => ?_
    refine st_call HE76 (wt0 rfl) rfl rfl rfl en_24 rfl rfl (eq_L_c _ _ _ _ ((regsOf a0).1) ((regsOf a0).1) _ (HH60.sl (i := 0) rfl) (HH60.sl (i := 2) rfl)) fun e w' hr => ?_
    obtain ⟨rfl, hbr27⟩ := hr
    have HH79 := HH60.on hbr27
    clear hbr27
    refine ⟨_, rfl, fun a_80 HE81 => hK78 _ _ ?_⟩
    refine pl_x HE81 HH79 (wt0 rfl) (x_not rfl) rfl rfl fun a_82 HE83 => ?_
    refine pl_x HE83 HH79 (wt0 rfl) (x_move rfl) rfl rfl fun a_84 HE85 => ?_
    refine pl_x HE85 HH79 (wtT HE85 rfl rfl rfl (not_f (eq_L_refl _))) (x_move rfl) rfl rfl fun a_86 HE87 => ?_
    refine pl_x HE87 HH79 (wtT HE87 rfl rfl rfl (not_f (eq_L_refl _))) (x_move rfl) rfl rfl fun a_88 HE89 => ?_
    refine pl_x HE89 HH79 (wtT HE89 rfl rfl rfl (not_f (eq_L_refl _))) (x_neq rfl rfl) rfl rfl fun a_90 HE91 => ?_
    refine pl_x HE91 HH79 (wt0 rfl) (x_pickF rfl (not_f (eq_L_refl _)) rfl) rfl rfl fun a_92 HE93 => ?_
    refine wpList_nil ?_
    clear a_71 HE72 a_73 HE74 HH60 a_75 HE76 a_80 HE81 a_82 HE83 a_84 HE85 a_86 HE87 a_88 HE89 a_90 HE91 hK78 K_77
    refine nrm ?_
    refine cndF HE93 rfl (bne_f rfl) ?_
    refine wp_skip ?_
    refine nrm ?_
    refine wp_seq ?_
    refine wp_seq ?_
    refine rg ?_
    refine pl_x HE93 HH79 (wt0 rfl) (x_move rfl) rfl rfl fun a_94 HE95 => ?_
    refine pl_x HE95 HH79 (wt0 rfl) (x_move rfl) rfl rfl fun a_96 HE97 => ?_
    refine pl fun K_98 hK99 => ?_
    refine st_call HE97 (wt0 rfl) rfl rfl rfl en_17 rfl rfl (to_InstrS _ _ a0 _ (HH79.old h0) (by omega)) fun e w' hr => ?_
    obtain ⟨Ar28, cr28, rfl, hor28, hbr28⟩ := hr
    obtain ⟨Sr28, HH100⟩ := HH79.newS hbr28 hor28
    clear hbr28 hor28
    refine ⟨_, rfl, fun a_101 HE102 => hK99 _ _ ?_⟩
    refine pl fun K_103 hK104 => ?_
    refine st_call HE102 (wt0 rfl) rfl rfl rfl en_19 rfl rfl (eq_SInstr_c _ _ _ _ a0 a0 _ (HH100.sl (i := 2) rfl) (HH100.sl (i := 0) rfl)) fun e w' hr => ?_
    obtain ⟨rfl, hbr29⟩ := hr
    have HH105 := HH100.on hbr29
    clear hbr29
    refine ⟨_, rfl, fun a_106 HE107 => hK104 _ _ ?_⟩
    refine pl_x HE107 HH105 (wt0 rfl) (x_not rfl) rfl rfl fun a_108 HE109 => ?_
    refine wpList_nil ?_
    clear a_92 HE93 a_94 HE95 HH79 a_96 HE97 K_98 hK99 HH100 a_101 HE102 a_106 HE107 hK104 K_103
    refine nrm ?_
    refine cndF HE109 rfl (not_f (eq_SInstr_refl _)) ?_
    refine wp_skip ?_
    refine nrm ?_
    refine wp_seq ?_
    refine rg ?_
    refine pl_x HE109 HH105 (wt0 rfl) (x_assign rfl) rfl rfl fun a_110 HE111 => ?_
    refine wpList_nil ?_
    clear a_108 HE109
    refine nrm ?_
    refine wp_seq ?_
    refine rg ?_
    refine pl_x HE111 HH105 (wt0 rfl) (x_move rfl) rfl rfl fun a_112 HE113 => ?_
    refine pl_x HE113 HH105 (wt0 rfl) (x_move rfl) rfl rfl fun a_114 HE115 => ?_
    refine pl fun K_116 hK117 => ?_
    refine st_call HE115 (wt0 rfl) rfl rfl rfl en_20 rfl rfl (mark_SInstr_c _ _ a0 1 _ _ (so_of_o (HH105.get (i := 2) rfl)) (HH105.lt (i := 2) rfl) (by omega) (by omega)) fun e w' hr => ?_
    obtain ⟨rfl, hsr30, hcr30⟩ := hr
    have HH118 := HH105.mut (i := 2) rfl hcr30 (rSo eInstr Sr25 Ar25 cr25 (mk_SInstr a0 1)) (oSl hsr30) (fun b hb => .inl hb)
    clear hsr30 hcr30
    refine ⟨_, rfl, fun a_119 HE120 => hK117 _ _ ?_⟩
    refine pl_x HE120 HH118 (wt0 rfl) (x_assign rfl) rfl rfl fun a_121 HE122 => ?_
    refine wpList_nil ?_
    clear a_110 HE111 a_112 HE113 HH105 a_114 HE115 a_119 HE120 hK117 K_116
    refine nrm ?_
    refine wp_seq ?_
    refine wp_seq ?_
    refine rg ?_
    refine pl_x HE122 HH118 (wt0 rfl) (x_move rfl) rfl rfl fun a_123 HE124 => ?_
    refine pl_x HE124 HH118 (wt0 rfl) (x_lss rfl rfl) rfl rfl fun a_125 HE126 => ?_
    refine pl_x HE126 HH118 (wt0 rfl) (x_move rfl) rfl rfl fun a_127 HE128 => ?_
    by_cases hc31 : (1 + (ct_SInstr a0 : Int)) < 0
    · refine pl_no HE128 (wtF HE128 rfl rfl rfl (decide_eq_true hc31)) rfl rfl fun a_129 HE130 => ?_
      refine pl_no HE130 (wtF HE130 rfl rfl rfl (decide_eq_true hc31)) rfl rfl fun a_131 HE132 => ?_
      refine pl_no HE132 (wtF HE132 rfl rfl rfl (decide_eq_true hc31)) rfl rfl fun a_133 HE134 => ?_
      refine pl_no HE134 (wtF HE134 rfl rfl rfl (decide_eq_true hc31)) rfl rfl fun a_135 HE136 => ?_
      refine pl_x HE136 HH118 (wt0 rfl) (x_pickT rfl (decide_eq_true hc31) rfl) rfl rfl fun a_137 HE138 => ?_
      refine pl_x HE138 HH118 (wt0 rfl) (x_move rfl) rfl rfl fun a_139 HE140 => ?_
      refine pl_no HE140 (wtF HE140 rfl rfl rfl rfl) rfl rfl fun a_141 HE142 => ?_
      refine pl_no HE142 (wtF HE142 rfl rfl rfl rfl) rfl rfl fun a_143 HE144 => ?_
      refine pl_no HE144 (wtF HE144 rfl rfl rfl rfl) rfl rfl fun a_145 HE146 => ?_
      refine pl_x HE146 HH118 (wt0 rfl) (x_pickT rfl rfl rfl) rfl rfl fun a_147 HE148 => ?_
      refine wpList_nil ?_
      clear a_121 HE122 a_123 HE124 a_125 HE126 a_127 HE128 a_129 HE130 a_131 HE132 a_133 HE134 a_135 HE136 a_137 HE138 a_139 HE140 a_141 HE142 a_143 HE144 a_145 HE146
      refine nrm ?_
      refine cndT HE148 rfl rfl ?_
      refine wp_seq ?_
      refine rg ?_
      refine pl_x HE148 HH118 (wt0 rfl) (x_assign rfl) rfl rfl fun a_149 HE150 => ?_
      refine wpList_nil ?_
      clear a_147 HE148
      refine nrm ?_
      refine wp_ret ?_
      refine (thn_ret ?_)
      refine ret1 HE150 rfl (rv_tmp rfl) ?_
      have hF : true = false := by
        first | rfl | (exfalso; omega)
      exact ⟨by first | (rw [hF] <;> rfl) | rfl | (rw [hF]; simp only [Ending.returned.injEq, Value.slice.injEq, true_and, and_true]; first | omega | (simp; done)), HH118.below⟩
    · refine pl_x HE128 HH118 (wtT HE128 rfl rfl rfl (decide_eq_false hc31)) (x_move rfl) rfl rfl fun a_151 HE152 => ?_
      refine pl_x HE152 HH118 (wtT HE152 rfl rfl rfl (decide_eq_false hc31)) (x_move rfl) rfl rfl fun a_153 HE154 => ?_
      refine pl fun K_155 hK156 => ?_
      refine st_call HE154 (wtT HE154 rfl rfl rfl (decide_eq_false hc31)) rfl rfl rfl en_24 rfl rfl (eq_L_c _ _ _ _ ((regsOf a0).1) ((regsOf a0).1) _ (HH118.sl (i := 1) rfl) (HH118.sl (i := 3) rfl)) fun e w' hr => ?_
      obtain ⟨rfl, hbr32⟩ := hr
      have HH157 := HH118.on hbr32
      clear hbr32
      refine ⟨_, rfl, fun a_158 HE159 => hK156 _ _ ?_⟩
      refine pl_x HE159 HH157 (wtT HE159 rfl rfl rfl (decide_eq_false hc31)) (x_not rfl) rfl rfl fun a_160 HE161 => ?_
      refine pl_x HE161 HH157 (wt0 rfl) (x_pickF rfl (decide_eq_false hc31) rfl) rfl rfl fun a_162 HE163 => ?_
      refine pl_x HE163 HH157 (wt0 rfl) (x_move rfl) rfl rfl fun a_164 HE165 => ?_
      refine pl_x HE165 HH157 (wtT HE165 rfl rfl rfl (not_f (eq_L_refl _))) (x_move rfl) rfl rfl fun a_166 HE167 => ?_
      refine pl_x HE167 HH157 (wtT HE167 rfl rfl rfl (not_f (eq_L_refl _))) (x_move rfl) rfl rfl fun a_168 HE169 => ?_
      refine pl_x HE169 HH157 (wtT HE169 rfl rfl rfl (not_f (eq_L_refl _))) (x_neq rfl rfl) rfl rfl fun a_170 HE171 => ?_
      refine pl_x HE171 HH157 (wt0 rfl) (x_pickF rfl (not_f (eq_L_refl _)) rfl) rfl rfl fun a_172 HE173 => ?_
      refine wpList_nil ?_
      clear a_121 HE122 a_123 HE124 a_125 HE126 a_127 HE128 a_151 HE152 HH118 a_153 HE154 a_158 HE159 a_160 HE161 a_162 HE163 a_164 HE165 a_166 HE167 a_168 HE169 a_170 HE171 hK156 K_155
      refine nrm ?_
      refine cndF HE173 rfl (bne_f rfl) ?_
      refine wp_skip ?_
      refine nrm ?_
      refine wp_seq ?_
      refine rg ?_
      refine pl_x HE173 HH157 (wt0 rfl) (x_assign rfl) rfl rfl fun a_174 HE175 => ?_
      refine wpList_nil ?_
      clear a_172 HE173
      refine nrm ?_
      refine wp_seq ?_
      refine rg ?_
      refine pl_x HE175 HH157 (wt0 rfl) (x_move rfl) rfl rfl fun a_176 HE177 => ?_
      refine pl_x HE177 HH157 (wt0 rfl) (x_move rfl) rfl rfl fun a_178 HE179 => ?_
      refine pl fun K_180 hK181 => ?_
      refine st_call HE179 (wt0 rfl) rfl rfl rfl en_25 rfl rfl (mark_L_c _ _ ((regsOf a0).1) 1 _ _ (so_of_o (HH157.get (i := 1) rfl)) (HH157.lt (i := 1) rfl) (by omega) (by omega)) fun e w' hr => ?_
      obtain ⟨rfl, hsr33, hcr33⟩ := hr
      have HH182 := HH157.mut (i := 1) rfl hcr33 (rSo eInt Sr26 Ar26_0 cr26_0 (mk_L ((regsOf a0).1) 1)) (oSl hsr33) (fun b hb => .inl hb)
      clear hsr33 hcr33
      refine ⟨_, rfl, fun a_183 HE184 => hK181 _ _ ?_⟩
      refine pl_x HE184 HH182 (wt0 rfl) (x_assign rfl) rfl rfl fun a_185 HE186 => ?_
      refine wpList_nil ?_
      clear a_174 HE175 a_176 HE177 HH157 a_178 HE179 a_183 HE184 hK181 K_180
      refine nrm ?_
      refine wp_seq ?_
      refine rg ?_
      refine pl_x HE186 HH182 (wt0 rfl) (x_assign rfl) rfl rfl fun a_187 HE188 => ?_
      refine wpList_nil ?_
      clear a_185 HE186
      refine nrm ?_
      refine wp_seq ?_
      refine rg ?_
      refine pl_x HE188 HH182 (wt0 rfl) (x_move rfl) rfl rfl fun a_189 HE190 => ?_
      refine pl_x HE190 HH182 (wt0 rfl) (x_move rfl) rfl rfl fun a_191 HE192 => ?_
      refine pl fun K_193 hK194 => ?_
      refine st_call HE192 (wt0 rfl) rfl rfl rfl en_26 rfl rfl (held_L_c _ _ ((regsOf a0).1) 1 _ (HH182.sl (i := 1) rfl) (by omega) (by omega)) fun e w' hr => ?_
      obtain ⟨rfl, hbr34⟩ := hr
      have HH195 := HH182.on hbr34
      clear hbr34
      refine ⟨_, rfl, fun a_196 HE197 => hK194 _ _ ?_⟩
      refine pl_x HE197 HH195 (wt0 rfl) (x_assign rfl) rfl rfl fun a_198 HE199 => ?_
      refine wpList_nil ?_
      clear a_187 HE188 a_189 HE190 HH182 a_191 HE192 a_196 HE197 hK194 K_193
      refine nrm ?_
      refine wp_seq ?_
      refine wp_seq ?_
      refine rg ?_
      refine pl_x HE199 HH195 (wt0 rfl) (x_move rfl) rfl rfl fun a_200 HE201 => ?_
      refine pl_x HE201 HH195 (wt0 rfl) (x_lss rfl rfl) rfl rfl fun a_202 HE203 => ?_
      refine wpList_nil ?_
      clear a_198 HE199 a_200 HE201
      refine nrm ?_
      refine cnd_d HE203 rfl (fun hc35 => ?_) (fun hc35 => ?_)
      · refine wp_seq ?_
        refine rg ?_
        refine pl_x HE203 HH195 (wt0 rfl) (x_assign rfl) rfl rfl fun a_204 HE205 => ?_
        refine wpList_nil ?_
        clear a_202 HE203
        refine nrm ?_
        refine wp_ret ?_
        refine (thn_ret ?_)
        refine ret1 HE205 rfl (rv_tmp rfl) ?_
        have hF : true = false := by
          first | rfl | (exfalso; omega)
        exact ⟨by first | (rw [hF] <;> rfl) | rfl | (rw [hF]; simp only [Ending.returned.injEq, Value.slice.injEq, true_and, and_true]; first | omega | (simp; done)), HH195.below⟩
      · refine wp_skip ?_
        refine nrm ?_
        refine wp_seq ?_
        refine wp_seq ?_
        refine rg ?_
        refine pl_x HE203 HH195 (wt0 rfl) (x_move rfl) rfl rfl fun a_206 HE207 => ?_
        refine pl_x HE207 HH195 (wt0 rfl) (x_move rfl) rfl rfl fun a_208 HE209 => ?_
        refine pl_x HE209 HH195 (wt0 rfl) (x_neq rfl rfl) rfl rfl fun a_210 HE211 => ?_
        refine wpList_nil ?_
        clear a_202 HE203 a_206 HE207 a_208 HE209
        refine nrm ?_
        refine cndF HE211 rfl (bne_f rfl) ?_
        refine wp_skip ?_
        refine nrm ?_
        refine wp_seq ?_
        refine rg ?_
        refine pl_x HE211 HH195 (wt0 rfl) (x_move rfl) rfl rfl fun a_212 HE213 => ?_
        refine pl fun K_214 hK215 => ?_
        refine st_call HE213 (wt0 rfl) rfl rfl rfl en_17 rfl rfl (to_InstrS _ _ a0 _ (HH195.old h0) (by omega)) fun e w' hr => ?_
        obtain ⟨Ar36, cr36, rfl, hor36, hbr36⟩ := hr
        obtain ⟨Sr36, HH216⟩ := HH195.newS hbr36 hor36
        clear hbr36 hor36
        refine ⟨_, rfl, fun a_217 HE218 => hK215 _ _ ?_⟩
        refine pl fun K_219 hK220 => ?_
        refine st_call HE218 (wt0 rfl) rfl rfl rfl en_73 rfl rfl (impl_RegistersOf _ _ a0 _ (HH216.sl (i := 0) rfl)) fun e w' hr => ?_
        obtain ⟨Ar37_0, cr37_0, rfl, hor37_0, hbr37⟩ := hr
        obtain ⟨Sr37, HH221⟩ := HH216.newS hbr37 hor37_0
        refine ⟨_, rfl, fun a_222 HE223 => hK220 _ _ ?_⟩
        refine pl_x HE223 HH221 (wt0 rfl) (x_move rfl) rfl rfl fun a_224 HE225 => ?_
        refine pl_x HE225 HH221 (wt0 rfl) (x_extract rfl rfl) rfl rfl fun a_226 HE227 => ?_
        refine pl_x HE227 HH221 (wt0 rfl) (x_extract rfl rfl) rfl rfl fun a_228 HE229 => ?_
        refine pl_x HE229 HH221 (wt0 rfl) (x_assign rfl) rfl rfl fun a_230 HE231 => ?_
        refine pl_x HE231 HH221 (wt0 rfl) (x_assign rfl) rfl rfl fun a_232 HE233 => ?_
        refine wpList_nil ?_
        clear a_210 HE211 HH195 a_212 HE213 K_214 hK215 HH216 a_217 HE218 a_222 HE223 a_224 HE225 a_226 HE227 a_228 HE229 a_230 HE231 hK220 K_219
        refine nrm ?_
        refine wp_seq ?_
        refine wp_seq ?_
        refine rg ?_
        refine pl_x HE233 HH221 (wt0 rfl) (x_move rfl) rfl rfl fun a_234 HE235 => ?_
        refine pl_x HE235 HH221 (wt0 rfl) (x_move rfl) rfl rfl fun a_236 HE237 => ?_
        refine pl fun K_238 hK239 => ?_
        refine st_call HE237 (wt0 rfl) rfl rfl rfl en_24 rfl rfl (eq_L_c _ _ _ _ ((regsOf a0).1) ((regsOf a0).1) _ (HH221.sl (i := 0) rfl) (HH221.sl (i := 5) rfl)) fun e w' hr => ?_
        obtain ⟨rfl, hbr38⟩ := hr
        have HH240 := HH221.on hbr38
        clear hbr38
        refine ⟨_, rfl, fun a_241 HE242 => hK239 _ _ ?_⟩
        refine pl_x HE242 HH240 (wt0 rfl) (x_not rfl) rfl rfl fun a_243 HE244 => ?_
        refine pl_x HE244 HH240 (wt0 rfl) (x_move rfl) rfl rfl fun a_245 HE246 => ?_
        refine pl_x HE246 HH240 (wtT HE246 rfl rfl rfl (not_f (eq_L_refl _))) (x_move rfl) rfl rfl fun a_247 HE248 => ?_
        refine pl_x HE248 HH240 (wtT HE248 rfl rfl rfl (not_f (eq_L_refl _))) (x_move rfl) rfl rfl fun a_249 HE250 => ?_
        refine pl_x HE250 HH240 (wtT HE250 rfl rfl rfl (not_f (eq_L_refl _))) (x_neq rfl rfl) rfl rfl fun a_251 HE252 => ?_
        refine pl_x HE252 HH240 (wt0 rfl) (x_pickF rfl (not_f (eq_L_refl _)) rfl) rfl rfl fun a_253 HE254 => ?_
        refine wpList_nil ?_
        clear a_232 HE233 a_234 HE235 HH221 a_236 HE237 a_241 HE242 a_243 HE244 a_245 HE246 a_247 HE248 a_249 HE250 a_251 HE252 hK239 K_238
        refine nrm ?_
        refine cndF HE254 rfl (bne_f rfl) ?_
        refine wp_skip ?_
        refine nrm ?_
        refine wp_seq ?_
        refine rg ?_
        refine pl_x HE254 HH240 (wt0 rfl) (x_assign rfl) rfl rfl fun a_255 HE256 => ?_
        refine wpList_nil ?_
        clear a_253 HE254
        refine nrm ?_
        refine wp_seq ?_
        refine rg ?_
        refine pl_x HE256 HH240 (wt0 rfl) (x_move rfl) rfl rfl fun a_257 HE258 => ?_
        refine pl_x HE258 HH240 (wt0 rfl) (x_move rfl) rfl rfl fun a_259 HE260 => ?_
        refine pl fun K_261 hK262 => ?_
        refine st_call HE260 (wt0 rfl) rfl rfl rfl en_26 rfl rfl (held_L_c _ _ ((regsOf a0).1) 1 _ (HH240.sl (i := 3) rfl) (by omega) (by omega)) fun e w' hr => ?_
        obtain ⟨rfl, hbr39⟩ := hr
        have HH263 := HH240.on hbr39
        clear hbr39
        refine ⟨_, rfl, fun a_264 HE265 => hK262 _ _ ?_⟩
        refine pl_x HE265 HH263 (wt0 rfl) (x_assign rfl) rfl rfl fun a_266 HE267 => ?_
        refine wpList_nil ?_
        clear a_255 HE256 a_257 HE258 HH240 a_259 HE260 a_264 HE265 hK262 K_261
        refine nrm ?_
        refine wp_seq ?_
        refine wp_seq ?_
        refine rg ?_
        refine pl_x HE267 HH263 (wt0 rfl) (x_move rfl) rfl rfl fun a_268 HE269 => ?_
        refine pl_x HE269 HH263 (wt0 rfl) (x_lss rfl rfl) rfl rfl fun a_270 HE271 => ?_
        refine wpList_nil ?_
        clear a_266 HE267 a_268 HE269
        refine nrm ?_
        refine cndF HE271 rfl (decide_eq_false hc35) ?_
        refine wp_skip ?_
        refine nrm ?_
        refine wp_seq ?_
        refine wp_seq ?_
        refine rg ?_
        refine pl_x HE271 HH263 (wt0 rfl) (x_move rfl) rfl rfl fun a_272 HE273 => ?_
        refine pl_x HE273 HH263 (wt0 rfl) (x_move rfl) rfl rfl fun a_274 HE275 => ?_
        refine pl_x HE275 HH263 (wt0 rfl) (x_neq rfl rfl) rfl rfl fun a_276 HE277 => ?_
        refine wpList_nil ?_
        clear a_270 HE271 a_272 HE273 a_274 HE275
        refine nrm ?_
        refine cndF HE277 rfl (bne_f rfl) ?_
        refine wp_skip ?_
        refine nrm ?_
        refine wp_seq ?_
        refine rg ?_
        refine pl_x HE277 HH263 (wt0 rfl) (x_assign rfl) rfl rfl fun a_278 HE279 => ?_
        refine wpList_nil ?_
        clear a_276 HE277
        refine nrm ?_
        refine wp_ret ?_
        refine ret1 HE279 rfl (rv_tmp rfl) ?_
        have hF : true = true := by
          first | rfl | (exfalso; omega)
        exact ⟨by first | (rw [hF] <;> rfl) | rfl | (rw [hF]; simp only [Ending.returned.injEq, Value.slice.injEq, true_and, and_true]; first | omega | (simp; done)), HH263.below⟩

end Go.Proofs.Ytnokeoejlfodkaa
