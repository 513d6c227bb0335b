/- What the proof of FnExactProgramText needs: contracts of the functions that it reaches, each once. -/
import Derived.Test.YtjnnkmflpbildaaDoorProg
import Derived.Test.YtjnnkmflpbildaaDoorQMem
import Derived.Test.YtjnnkmflpbildaaDoorQOpen
import Derived.Test.YtjnnkmflpbildaaDoorLProgramTexta
import Derived.WalkKit
import Derived.WalkSpells
import Derived.Below
import Derived.LoopTactic
import Derived.Outline
import Derived.Deep.QuietTactic
import Derived.BigQuiet
import Derived.Deep.LoopGhost
import Derived.Handy
import Derived.Lib.Hide
import Derived.Shelf.Abstract
import Derived.StillTailTactics
import Derived.OwnWalk
import Derived.Maps.AppendAt
import Derived.RegionTactic
import Derived.Deep.RegionHeld3
import Derived.IntWalk
import Derived.Deep.Upon
import Derived.Laws.OwnMore
import Derived.Maps.AppendAt
import Derived.Laws.BytesString
import Derived.Laws.Strings
import Derived.Lib.Bytes
import Derived.Lib.Strings
import Derived.Lib.FrozenHead
import Derived.Lib.RuneBytes
import Derived.Lib.LaidTab
import Derived.Laws.StructEq
import Derived.Lib.ItoaLen
import Derived.Lib.Join
import Derived.Shelf.Strconv.Itoa4
import Derived.Shelf.Strings.OnBuilder
import Derived.Shelf.Strings.BuilderK
import Derived.Shelf.Strings.BuilderRune
import Derived.Shelf.LaysM
import Derived.Ground.NamesProg
namespace Go.Proofs.YtjnnkmflpbildaaDoor
open Go.RowKit

theorem ts_159 : TSl Tryd.prog 159 5 1 1 := by
  obtain ⟨i, h1, h2, h3, h4⟩ := ts_parts (show (Tryd.prog.info? 5).map (fun i => (i.zero, i.size, i.bytes)) = some (some (.int .u8 0), 1, 1) from by kernel_rfl)
  exact ⟨Tryd.underlying159, i, _, h1, h2, h3, h4, rfl⟩

theorem en_19 : ∀ args w, (callFunc 19 args).run Tryd.prog w = .ok (.enter 19 args) w := enters_of Tryd.func19 (by kernel_rfl) rfl

theorem en_20 : ∀ args w, (callFunc 20 args).run Tryd.prog w = .ok (.enter 20 args) w := enters_of Tryd.func20 (by kernel_rfl) rfl

theorem en_21 : ∀ args w, (callFunc 21 args).run Tryd.prog w = .ok (.enter 21 args) w := enters_of Tryd.func21 (by kernel_rfl) rfl

theorem en_22 : ∀ args w, (callFunc 22 args).run Tryd.prog w = .ok (.enter 22 args) w := enters_of Tryd.func22 (by kernel_rfl) rfl

theorem en_23 : ∀ args w, (callFunc 23 args).run Tryd.prog w = .ok (.enter 23 args) w := enters_of Tryd.func23 (by kernel_rfl) rfl

theorem en_60 : ∀ args w, (callFunc 60 args).run Tryd.prog w = .ok (.enter 60 args) w := enters_of Tryd.func60 (by kernel_rfl) rfl

theorem en_61 : ∀ args w, (callFunc 61 args).run Tryd.prog w = .ok (.enter 61 args) w := enters_of Tryd.func61 (by kernel_rfl) rfl

theorem en_63 : ∀ args w, (callFunc 63 args).run Tryd.prog w = .ok (.enter 63 args) w := enters_of Tryd.func63 (by kernel_rfl) rfl

theorem en_64 : ∀ args w, (callFunc 64 args).run Tryd.prog w = .ok (.enter 64 args) w := enters_of Tryd.func64 (by kernel_rfl) rfl

theorem en_66 : ∀ args w, (callFunc 66 args).run Tryd.prog w = .ok (.enter 66 args) w := enters_of Tryd.func66 (by kernel_rfl) rfl

theorem en_67 : ∀ args w, (callFunc 67 args).run Tryd.prog w = .ok (.enter 67 args) w := enters_of Tryd.func67 (by kernel_rfl) rfl

theorem en_103 : ∀ args w, (callFunc 103 args).run Tryd.prog w = .ok (.enter 103 args) w := enters_of Tryd.func103 (by kernel_rfl) rfl

theorem en_108 : ∀ args w, (callFunc 108 args).run Tryd.prog w = .ok (.enter 108 args) w := enters_of Tryd.func108 (by kernel_rfl) rfl

theorem hmix : Tryd.prog.follows .mixedOrders = true := by kernel_rfl

def isReg (r : Int) : Bool := withinB r 0 23

def validInstr (x : tInstr) (n : Int) : Bool :=
  isReg x.2.1 && withinB x.2.2.1 0 n && (if x.1 = 0 then x.2.2.2 == 0 else if x.1 = 1 then withinB x.2.2.2 0 n else false)

theorem impl_isRegister (r : Int) (w : World) : Calls Tryd.prog 153 #[.int .i64 r] w fun e w' => e = .returned (.bool (isReg r)) ∧ w = w' := by
  unfold isReg
  go_enter Tryd.func153, Tryd.ntmps153
  go_wp2_with (go_at_call 104; refine (impl_within _ _ _ _).mono ?_; rintro e w' ⟨rfl, rfl⟩)
  go_ret
  exact ⟨rfl, rfl⟩

theorem spec_l07Register (r : Int) (w : World) : Calls Tryd.prog 112 #[.int .i64 r] w fun e w' => e = .returned (.bool (isReg r)) ∧ w = w' := by
  unfold isReg
  go_enter Tryd.func112, Tryd.ntmps112
  go_wp2_with (go_at_call 52; refine (spec_l00In _ _ _ _).mono ?_; rintro e w' ⟨rfl, rfl⟩)
  go_ret
  exact ⟨rfl, rfl⟩

set_option maxHeartbeats 400000 in
theorem impl_validInstr (x : tInstr) (n : Int) (w : World) :
    Calls Tryd.prog 115 #[.agg #[.int .i64 x.1, .int .i64 x.2.1, .int .i64 x.2.2.1, .int .i64 x.2.2.2], .int .i64 n] w fun e w' => e = .returned (.bool (validInstr x n)) ∧ Below w.heap.size w w' := by
  obtain ⟨kd, r, t, el⟩ := x
  cases h1 : isReg r
  · rw [show validInstr (kd, r, t, el) n = false from by unfold validInstr; simp [h1]]
    go_enter Tryd.func115, Tryd.ntmps115
    go_wp2_with (first | (go_at_call 153; refine (impl_isRegister _ _).mono ?_; rintro e w' ⟨rfl, rfl⟩; rw [h1]) | (go_at_call 104; refine (impl_within _ _ _ _).mono ?_; rintro e w' ⟨rfl, rfl⟩; (try rw [h2])))
    go_ret
    exact ⟨rfl, by go_grown⟩
  cases h2 : withinB t 0 n
  · rw [show validInstr (kd, r, t, el) n = false from by unfold validInstr; simp [h1, h2]]
    go_enter Tryd.func115, Tryd.ntmps115
    go_wp2_with (first | (go_at_call 153; refine (impl_isRegister _ _).mono ?_; rintro e w' ⟨rfl, rfl⟩; rw [h1]) | (go_at_call 104; refine (impl_within _ _ _ _).mono ?_; rintro e w' ⟨rfl, rfl⟩; (try rw [h2])))
    go_ret
    exact ⟨rfl, by go_grown⟩
  by_cases k0 : kd = 0
  · have k0' : (kd == 0) = true := by simp [k0]
    rw [show validInstr (kd, r, t, el) n = (el == 0) from by unfold validInstr; simp [h1, h2, k0]]
    go_enter Tryd.func115, Tryd.ntmps115
    go_wp2_with (first | (go_at_call 153; refine (impl_isRegister _ _).mono ?_; rintro e w' ⟨rfl, rfl⟩; rw [h1]) | (go_at_call 104; refine (impl_within _ _ _ _).mono ?_; rintro e w' ⟨rfl, rfl⟩; (try rw [h2])))
    go_ret
    exact ⟨rfl, by go_grown⟩
  have k0' : (kd == 0) = false := by simp [k0]
  by_cases k1 : kd = 1
  · have k1' : (kd == 1) = true := by simp [k1]
    rw [show validInstr (kd, r, t, el) n = withinB el 0 n from by unfold validInstr; simp [h1, h2, k1]]
    go_enter Tryd.func115, Tryd.ntmps115
    go_wp2_with (first | (go_at_call 153; refine (impl_isRegister _ _).mono ?_; rintro e w' ⟨rfl, rfl⟩; rw [h1]) | (go_at_call 104; refine (impl_within _ _ _ _).mono ?_; rintro e w' ⟨rfl, rfl⟩; (try rw [h2])))
    go_ret
    exact ⟨rfl, by go_grown⟩
  have k1' : (kd == 1) = false := by simp [k1]
  rw [show validInstr (kd, r, t, el) n = false from by unfold validInstr; simp [h1, h2, k0, k1]]
  go_enter Tryd.func115, Tryd.ntmps115
  go_wp2_with (first | (go_at_call 153; refine (impl_isRegister _ _).mono ?_; rintro e w' ⟨rfl, rfl⟩; rw [h1]) | (go_at_call 104; refine (impl_within _ _ _ _).mono ?_; rintro e w' ⟨rfl, rfl⟩; (try rw [h2])))
  go_ret
  exact ⟨rfl, by go_grown⟩

theorem enters_ValidProgram1 : ∀ args w, (callFunc 114 args).run Tryd.prog w = .ok (.enter 114 args) w := enters_of Tryd.func114 (by kernel_rfl) rfl

theorem impl_ValidProgram1 (es : List Value) (x : tInstr) (w : World) (h : eInstr.R w (Old w) es x) (B : Nat) (A : Option Addr) (n c : Nat) (hB : w.cell? ⟨B, 0, none⟩ = some (.slice A n c)) :
    Calls Tryd.prog 114 #[.agg es.toArray, .pointer (some ⟨B, 0, none⟩)] w fun e w' => e = .returned (.bool (!validInstr x n)) ∧ Below w.heap.size w w' := by
  obtain ⟨rfl, _, _, _, _⟩ := shape_Instr h
  clear h
  have hlt : B < w.heap.size := World.block_lt_of_cell? w _ hB
  go_enter Tryd.func114, Tryd.ntmps114
  go_wp2_with fail
  go_region_held3 (fun w' => w'.cell? ⟨w.heap.size, 0, none⟩ = some (.int .i64 x.1) ∧ w'.cell? ⟨w.heap.size, 1, none⟩ = some (.int .i64 x.2.1) ∧ w'.cell? ⟨w.heap.size, 2, none⟩ = some (.int .i64 x.2.2.1) ∧ w'.cell? ⟨w.heap.size, 3, none⟩ = some (.int .i64 x.2.2.2) ∧ w'.cell? ⟨B, 0, none⟩ = some (.slice A n c)) (first | (simp [go_sem, World.cell?_alloc_past, hB, hlt]; done) | (obtain ⟨hc, hf⟩ := bcell hb; simp [hc, go_sem, World.cell?_alloc_past, hB, hlt, Nat.lt_succ_of_lt hlt]))
    (first
      | (go_at_call 116; refine (impl_size_Instr _ _ _ _).mono ?_; rintro e w' ⟨rfl, rfl⟩)
      | (go_at_call 115; refine (impl_validInstr x _ _).mono ?_; rintro e w' ⟨rfl, hb⟩))
  go_wp2
  go_ret
  exact ⟨rfl, below_trans ((Below.refl _ _).alloc (Nat.le_refl _) _).drew hb⟩

def validProg (p : List tInstr) : Bool := decide (p.length ≤ 400) && !p.any fun x => !validInstr x p.length

set_option maxHeartbeats 400000 in
theorem impl_ValidProgram (A : Option Addr) (c : Nat) (xs : List tInstr) (w : World) (h : Sl eInstr w (Old w) A c xs) :
    Calls Tryd.prog 66 #[.slice A xs.length c] w fun e w' => e = .returned (.bool (validProg xs)) ∧ Below w.heap.size w w' := by
  have hW : Below w.heap.size w (w.alloc (.cells #[.slice A xs.length c] 38)) := (Below.refl _ _).alloc (Nat.le_refl _) _
  have hI := Lib.hid (ContainsFunc_Instr (fun x => !validInstr x xs.length) 114 #[.pointer (some ⟨w.heap.size, 0, none⟩)] A c xs _ (h.on hW) enters_ValidProgram1 (fun W x es _ hb hR => impl_ValidProgram1 es x W hR w.heap.size A xs.length c (by
    rw [hb.cell (p := ⟨w.heap.size, 0, none⟩) (by simp)]; simp [go_sem])))
  have HW := Lib.hid hW; clear hW h
  by_cases h1 : xs.length ≤ 400
  · have h1' : decide ((xs.length : Int) ≤ 400) = true := by simp; omega
    rw [show validProg xs = !xs.any (fun x => !validInstr x xs.length) from by unfold validProg; simp [h1]]
    go_enter Tryd.func66, Tryd.ntmps66
    go_wp2_with (go_at_call 113; refine hI.out.mono ?_; rintro e w' ⟨rfl, hb⟩)
    go_ret
    exact ⟨rfl, below_trans HW.out hb⟩
  · have h1' : decide ((xs.length : Int) ≤ 400) = false := by simp; omega
    rw [show validProg xs = false from by unfold validProg; simp [h1]]
    go_enter Tryd.func66, Tryd.ntmps66
    go_wp2_with fail
    go_ret
    exact ⟨rfl, HW.out⟩

theorem validInstr_eq (kd r t el : Int) (n : Nat) : validInstr (kd, r, t, el) n = (isReg r && withinB t 0 n && ((kd == 0 || kd == 1) && (kd != 0 || el == 0) && withinB el 0 n)) := by
  unfold validInstr
  by_cases k0 : kd = 0
  · subst k0
    by_cases e0 : el = 0
    · subst e0; simp [withinB]
    · have e0' : (el == 0) = false := by simp [e0]
      simp [e0']
  · by_cases k1 : kd = 1
    · subst k1; simp
    · simp [k0, k1]

def badProg (p : List tInstr) (x : tInstr) : Bool := !validInstr x p.length

theorem validProg_eq (p : List tInstr) : validProg p = (!p.any (badProg p) && decide (p.length ≤ 400)) := by
  unfold validProg badProg; rw [Bool.and_comm]

set_option maxHeartbeats 1000000 in
theorem spec_l07Is (A : Option Addr) (c : Nat) (xs : List tInstr) (w : World) (h : Sl eInstr w (Old w) A c xs) :
    Calls Tryd.prog 63 #[.slice A xs.length c] w fun e w' => e = .returned (.bool (validProg xs)) ∧ Below w.heap.size w w' := by
  have hlen := h.len
  have H := Lib.hid h; clear h
  have HV := Lib.hid (validProg_eq xs)
  go_enter Tryd.func63, Tryd.ntmps63
  go_wp2
  go_loopw [4] (fun s4 wr => ∃ k : Nat, k ≤ xs.length ∧ s4 = .int .i64 k ∧ Hid ((xs.take k).any (badProg xs) = false) ∧ Hid (Below w.heap.size w wr)) (fun s4 _ => xs.length - (intOf s4).toNat)
  case atStart => exact ⟨0, Nat.zero_le _, rfl, rfl, Below.refl _ w⟩
  case round =>
    obtain ⟨k, hk, rfl, HN, BW⟩ := hrel
    by_cases hlt : k < xs.length
    · have hltz : (k : Int) < (xs.length : Int) := by omega
      obtain ⟨b, off, es, rfl, hb, hR, hc⟩ := H.out.at hlt
      obtain ⟨rfl, _, _, _, _⟩ := shape_Instr hR
      have d0 : wr.cell? ⟨b, off + k * 4, none⟩ = some (.int .i64 xs[k].1) := (below_olds BW.out _ hb).trans (hc 0 _ rfl)
      have d1 : wr.cell? ⟨b, off + k * 4 + 1, none⟩ = some (.int .i64 xs[k].2.1) := (below_olds BW.out _ hb).trans (hc 1 _ rfl)
      have d2 : wr.cell? ⟨b, off + k * 4 + 2, none⟩ = some (.int .i64 xs[k].2.2.1) := (below_olds BW.out _ hb).trans (hc 2 _ rfl)
      have d3 : wr.cell? ⟨b, off + k * 4 + 3, none⟩ = some (.int .i64 xs[k].2.2.2) := (below_olds BW.out _ hb).trans (hc 3 _ rfl)
      clear hc hR
      have HT : Hid (badProg xs xs[k] = true → validProg xs = false) := fun e => by rw [HV.out, any_hit hlt e]; rfl
      have HS : Hid (badProg xs xs[k] = false → (xs.take (k + 1)).any (badProg xs) = false) := fun e => any_step hlt HN.out e
      generalize xs[k] = y at d0 d1 d2 d3 HT HS
      obtain ⟨kd, r, t, el⟩ := y
      have HE : Hid (badProg xs (kd, r, t, el) = !(isReg r && withinB t 0 xs.length && ((kd == 0 || kd == 1) && (kd != 0 || el == 0) && withinB el 0 xs.length))) := by show _ = _; unfold badProg; rw [validInstr_eq]
      have HBW : Hid (∀ o, Below w.heap.size w (wr.alloc o)) := fun o => below_alloc BW.out o
      cases q1 : isReg r
      · go_wp2_with (go_at_call 112; refine (spec_l07Register _ _).mono ?_; rintro e w' ⟨rfl, rfl⟩; rw [q1])
        go_ret
        exact ⟨by rw [HT.out (by rw [HE.out, q1]; simp)]; rfl, HBW.out _⟩
      cases q2 : withinB t 0 xs.length
      · go_wp2_with (first | (go_at_call 112; refine (spec_l07Register _ _).mono ?_; rintro e w' ⟨rfl, rfl⟩; rw [q1]) | (go_at_call 52; refine (spec_l00In _ _ _ _).mono ?_; rintro e w' ⟨rfl, rfl⟩; rw [q2]))
        go_ret
        exact ⟨by rw [HT.out (by rw [HE.out, q2]; simp)]; rfl, HBW.out _⟩
      by_cases k0 : kd = 0
      · subst k0
        by_cases e0 : el = 0
        · subst e0
          cases q3 : withinB 0 0 xs.length
          · exfalso; simp [withinB] at q3
          have hF := HS.out (by rw [HE.out, q1, q2, q3]; simp)
          have HF := Lib.hid hF; clear hF
          go_wp2_with (first | (go_at_call 112; refine (spec_l07Register _ _).mono ?_; rintro e w' ⟨rfl, rfl⟩; rw [q1]) | (go_at_call 52; refine (spec_l00In _ _ _ _).mono ?_; rintro e w' ⟨rfl, rfl⟩; first | rw [q2] | rw [q3]))
          go_roundw
          case rel => exact ⟨k + 1, by omega, by go_num, HF.out, HBW.out _⟩
          case measure => simp [intOf]; omega
        · have e0' : (el != 0) = true := by simp [e0]
          have hF := HT.out (by rw [HE.out]; simp [e0])
          have HF := Lib.hid hF; clear hF
          go_wp2_with (first | (go_at_call 112; refine (spec_l07Register _ _).mono ?_; rintro e w' ⟨rfl, rfl⟩; rw [q1]) | (go_at_call 52; refine (spec_l00In _ _ _ _).mono ?_; rintro e w' ⟨rfl, rfl⟩; rw [q2]))
          go_ret
          exact ⟨by rw [HF.out]; rfl, HBW.out _⟩
      have k0a : (kd != 0) = true := by simp [k0]
      have k0b : (kd == 0) = false := by simp [k0]
      by_cases k1 : kd = 1
      · subst k1
        cases q3 : withinB el 0 xs.length
        · have hF := HT.out (by rw [HE.out, q3]; simp)
          have HF := Lib.hid hF; clear hF
          go_wp2_with (first | (go_at_call 112; refine (spec_l07Register _ _).mono ?_; rintro e w' ⟨rfl, rfl⟩; rw [q1]) | (go_at_call 52; refine (spec_l00In _ _ _ _).mono ?_; rintro e w' ⟨rfl, rfl⟩; first | rw [q2] | rw [q3]))
          go_ret
          exact ⟨by rw [HF.out]; rfl, HBW.out _⟩
        · have hF := HS.out (by rw [HE.out, q1, q2, q3]; simp)
          have HF := Lib.hid hF; clear hF
          go_wp2_with (first | (go_at_call 112; refine (spec_l07Register _ _).mono ?_; rintro e w' ⟨rfl, rfl⟩; rw [q1]) | (go_at_call 52; refine (spec_l00In _ _ _ _).mono ?_; rintro e w' ⟨rfl, rfl⟩; first | rw [q2] | rw [q3]))
          go_roundw
          case rel => exact ⟨k + 1, by omega, by go_num, HF.out, HBW.out _⟩
          case measure => simp [intOf]; omega
      have k1a : (kd != 1) = true := by simp [k1]
      have hF := HT.out (by rw [HE.out]; simp [k0, k1])
      have HF := Lib.hid hF; clear hF
      go_wp2_with (first | (go_at_call 112; refine (spec_l07Register _ _).mono ?_; rintro e w' ⟨rfl, rfl⟩; rw [q1]) | (go_at_call 52; refine (spec_l00In _ _ _ _).mono ?_; rintro e w' ⟨rfl, rfl⟩; rw [q2]))
      go_ret
      exact ⟨by rw [HF.out]; rfl, HBW.out _⟩
    · have hltz : ¬ (k : Int) < (xs.length : Int) := by omega
      obtain rfl : k = xs.length := by omega
      go_wp2
      go_ret
      have hn := HN.out
      rw [List.take_length] at hn
      exact ⟨ret_bool (by rw [HV.out, hn]; simp; omega), BW.out⟩

theorem left_ok {l : Int} {n : Nat} (h : ¬ left l n < 0) : left l n = l - (n : Int) ∧ (n : Int) ≤ l := by
  unfold left at *; split at h <;> simp_all <;> omega

theorem validProg_reg {p : List tInstr} (h : validProg p = true) : ∀ i ∈ p, 0 ≤ i.2.1 ∧ i.2.1 ≤ 23 := by
  intro i hi
  unfold validProg at h
  simp at h
  have h1 := h.2 i.1 i.2.1 i.2.2.1 i.2.2.2 hi
  unfold validInstr isReg at h1
  simp only [Bool.and_eq_true] at h1
  have h2 := withinB_true.1 h1.1.1
  exact ⟨h2.1, h2.2⟩

theorem validProg_to {p : List tInstr} (h : validProg p = true) : ∀ i ∈ p, (0 ≤ i.2.2.1 ∧ i.2.2.1 ≤ p.length) ∧ (0 ≤ i.2.2.2 ∧ i.2.2.2 ≤ p.length) := by
  intro i hi
  unfold validProg at h
  simp at h
  have h1 := h.2 i.1 i.2.1 i.2.2.1 i.2.2.2 hi
  unfold validInstr at h1
  simp only [Bool.and_eq_true] at h1
  refine ⟨withinB_true.1 h1.1.2, ?_⟩
  have h3 := h1.2
  split at h3
  · simp at h3; omega
  · split at h3
    · exact withinB_true.1 h3
    · simp at h3

def okP (p : List tInstr) : Prop := p.length ≤ 400 ∧ ∀ x ∈ p, (x.1 = 0 ∨ x.1 = 1) ∧ (0 ≤ x.2.2.1 ∧ x.2.2.1 ≤ 400) ∧ 0 ≤ x.2.2.2 ∧ x.2.2.2 ≤ 400

theorem validProg_okP {p : List tInstr} (h : validProg p = true) : okP p := by
  have hl : p.length ≤ 400 := by
    unfold validProg at h
    simp at h
    omega
  refine ⟨hl, fun x hx => ?_⟩
  have h2 := validProg_to h x hx
  refine ⟨?_, by omega, by omega, by omega⟩
  unfold validProg at h
  simp at h
  have h1 := h.2 x.1 x.2.1 x.2.2.1 x.2.2.2 hx
  unfold validInstr at h1
  simp only [Bool.and_eq_true] at h1
  have h3 := h1.2
  split at h3
  · rename_i q; exact .inl (by simpa using q)
  · split at h3
    · rename_i q; exact .inr (by simpa using q)
    · simp at h3

/-- The library's table that the decimal forms are made with. -/
def Glob (w : World) : Prop := Lib.TabIs Tryd.prog w "internal/strconv.uint64pow10" .u64 Lib.pow10Tab

theorem globNum : Tryd.prog.globalNamed "internal/strconv.uint64pow10" = some 0 := by kernel_rfl

theorem Held.glob {w0 w : World} {rs : List Res} (h : Held Nob w0 rs w) (hG : Glob w0) : Glob w := tab_below globNum hG h.below

theorem grow_below (w : World) (k : Nat) (os : Array Obj) : Below w.heap.size w (Go.Sort.grow (w.drewN k) os) :=
  ⟨rfl, rfl, rfl, by show w.heap.size ≤ (w.heap ++ os).size; rw [Array.size_append]; omega, fun b hb => Go.Sort.heap_grow_old (w.drewN k) os hb⟩

def shelf_M173_ren : Go.Shelf.Ren := ⟨fun | 173 => 108 | 246 => 149 | 283 => 168 | 284 => 169 | 285 => 170 | 286 => 171 | 129 => 180 | 317 => 179 | 318 => 181 | 319 => 182 | 320 => 183 | 337 => 186 | 338 => 187 | n => n, fun | 2 => 2 | 3 => 3 | 9 => 9 | 4 => 4 | 171 => 211 | 0 => 0 | 53 => 212 | 37 => 159 | 5 => 5 | 173 => 215 | 212 => 226 | 51 => 222 | 20 => 20 | 213 => 227 | 46 => 229 | 232 => 232 | 233 => 233 | n => n, fun | 17 => 0 | 18 => 2 | 19 => 3 | n => n⟩

theorem shelf_M173 : Go.Proofs.LaysM.n173 Tryd.prog shelf_M173_ren := {
  mixed := by kernel_rfl
  f129 := Tryd.func180.trans (congrArg some (by kernel_rfl))
  f173 := Tryd.func108.trans (congrArg some (by kernel_rfl))
  f246 := Tryd.func149.trans (congrArg some (by kernel_rfl))
  f283 := Tryd.func168.trans (congrArg some (by kernel_rfl))
  f284 := Tryd.func169.trans (congrArg some (by kernel_rfl))
  f285 := Tryd.func170.trans (congrArg some (by kernel_rfl))
  f286 := Tryd.func171.trans (congrArg some (by kernel_rfl))
  f317 := Tryd.func179.trans (congrArg some (by kernel_rfl))
  f318 := Tryd.func181.trans (congrArg some (by kernel_rfl))
  f319 := Tryd.func182.trans (congrArg some (by kernel_rfl))
  f320 := Tryd.func183.trans (congrArg some (by kernel_rfl))
  f337 := Tryd.func186.trans (congrArg some (by kernel_rfl))
  f338 := Tryd.func187.trans (congrArg some (by kernel_rfl))
  t0 := Tryd.underlying0
  a0 := Tryd.isAgg0
  z0 := Tryd.sizeOf0
  v0 := Tryd.zeroValue0
  t2 := Tryd.underlying2
  a2 := Tryd.isAgg2
  z2 := Tryd.sizeOf2
  v2 := Tryd.zeroValue2
  t3 := Tryd.underlying3
  a3 := Tryd.isAgg3
  z3 := Tryd.sizeOf3
  v3 := Tryd.zeroValue3
  t4 := Tryd.underlying4
  a4 := Tryd.isAgg4
  z4 := Tryd.sizeOf4
  v4 := Tryd.zeroValue4
  t5 := Tryd.underlying5
  a5 := Tryd.isAgg5
  z5 := Tryd.sizeOf5
  v5 := Tryd.zeroValue5
  t9 := Tryd.underlying9
  a9 := Tryd.isAgg9
  z9 := Tryd.sizeOf9
  v9 := Tryd.zeroValue9
  t20 := Tryd.underlying20
  a20 := Tryd.isAgg20
  z20 := Tryd.sizeOf20
  v20 := Tryd.zeroValue20
  t37 := Tryd.underlying159
  a37 := Tryd.isAgg159
  z37 := Tryd.sizeOf159
  v37 := Tryd.zeroValue159
  t46 := Tryd.underlying229
  a46 := Tryd.isAgg229
  z46 := Tryd.sizeOf229
  v46 := Tryd.zeroValue229
  t51 := Tryd.underlying222
  a51 := Tryd.isAgg222
  z51 := Tryd.sizeOf222
  v51 := Tryd.zeroValue222
  t53 := Tryd.underlying212
  a53 := Tryd.isAgg212
  z53 := Tryd.sizeOf212
  v53 := Tryd.zeroValue212
  t171 := Tryd.underlying211
  a171 := Tryd.isAgg211
  z171 := Tryd.sizeOf211
  v171 := Tryd.zeroValue211
  t173 := Tryd.underlying215
  a173 := Tryd.isAgg215
  z173 := Tryd.sizeOf215
  v173 := Tryd.zeroValue215
  t212 := Tryd.underlying226
  a212 := Tryd.isAgg226
  z212 := Tryd.sizeOf226
  v212 := Tryd.zeroValue226
  t213 := Tryd.underlying227
  a213 := Tryd.isAgg227
  z213 := Tryd.sizeOf227
  t232 := Tryd.underlying232
  a232 := Tryd.isAgg232
  z232 := Tryd.sizeOf232
  v232 := Tryd.zeroValue232
  t233 := Tryd.underlying233
  a233 := Tryd.isAgg233
  z233 := Tryd.sizeOf233
  v233 := Tryd.zeroValue233
  g17 := by kernel_rfl
  g18 := by kernel_rfl
  g19 := by kernel_rfl
  i0 := by kernel_rfl
  i2 := by kernel_rfl
  i3 := by kernel_rfl
  i4 := by kernel_rfl
  i5 := by kernel_rfl
  i9 := by kernel_rfl
  i20 := by kernel_rfl
  i37 := by kernel_rfl
  i46 := by kernel_rfl
  i51 := by kernel_rfl
  i53 := by kernel_rfl
  i171 := by kernel_rfl
  i173 := by kernel_rfl
  i212 := by kernel_rfl
  i232 := by kernel_rfl
  i233 := by kernel_rfl
  m17 := by kernel_rfl
  m18 := by kernel_rfl
  m19 := by kernel_rfl }

def shelf_156_ren : Go.Shelf.Ren := ⟨fun | 156 => 61 | 165 => 109 | 166 => 110 | 169 => 111 | 240 => 150 | 241 => 151 | 276 => 172 | 277 => 173 | n => n, fun | 31 => 106 | 9 => 9 | 3 => 3 | 4 => 4 | 0 => 0 | 20 => 20 | 72 => 161 | 76 => 165 | 70 => 158 | 37 => 159 | 75 => 164 | 127 => 198 | 164 => 217 | 5 => 5 | 80 => 167 | n => n, fun | n => n⟩

theorem shelf_156 : Go.Proofs.Lays.n156 Tryd.prog shelf_156_ren := {
  mixed := by kernel_rfl
  f156 := Tryd.func61.trans (congrArg some (by kernel_rfl))
  f165 := Tryd.func109.trans (congrArg some (by kernel_rfl))
  f166 := Tryd.func110.trans (congrArg some (by kernel_rfl))
  f169 := Tryd.func111.trans (congrArg some (by kernel_rfl))
  f240 := Tryd.func150.trans (congrArg some (by kernel_rfl))
  f241 := Tryd.func151.trans (congrArg some (by kernel_rfl))
  f276 := Tryd.func172.trans (congrArg some (by kernel_rfl))
  f277 := Tryd.func173.trans (congrArg some (by kernel_rfl))
  t0 := Tryd.underlying0
  a0 := Tryd.isAgg0
  z0 := Tryd.sizeOf0
  v0 := Tryd.zeroValue0
  t3 := Tryd.underlying3
  a3 := Tryd.isAgg3
  z3 := Tryd.sizeOf3
  v3 := Tryd.zeroValue3
  t4 := Tryd.underlying4
  a4 := Tryd.isAgg4
  z4 := Tryd.sizeOf4
  v4 := Tryd.zeroValue4
  t9 := Tryd.underlying9
  a9 := Tryd.isAgg9
  z9 := Tryd.sizeOf9
  v9 := Tryd.zeroValue9
  t20 := Tryd.underlying20
  a20 := Tryd.isAgg20
  z20 := Tryd.sizeOf20
  v20 := Tryd.zeroValue20
  t31 := Tryd.underlying106
  a31 := Tryd.isAgg106
  z31 := Tryd.sizeOf106
  v31 := Tryd.zeroValue106
  t37 := Tryd.underlying159
  a37 := Tryd.isAgg159
  z37 := Tryd.sizeOf159
  v37 := Tryd.zeroValue159
  t70 := Tryd.underlying158
  a70 := Tryd.isAgg158
  z70 := Tryd.sizeOf158
  v70 := Tryd.zeroValue158
  t72 := Tryd.underlying161
  a72 := Tryd.isAgg161
  z72 := Tryd.sizeOf161
  v72 := Tryd.zeroValue161
  t75 := Tryd.underlying164
  a75 := Tryd.isAgg164
  z75 := Tryd.sizeOf164
  v75 := Tryd.zeroValue164
  t76 := Tryd.underlying165
  a76 := Tryd.isAgg165
  z76 := Tryd.sizeOf165
  v76 := Tryd.zeroValue165
  t127 := Tryd.underlying198
  a127 := Tryd.isAgg198
  z127 := Tryd.sizeOf198
  v127 := Tryd.zeroValue198
  t164 := Tryd.underlying217
  a164 := Tryd.isAgg217
  z164 := Tryd.sizeOf217
  v164 := Tryd.zeroValue217 }

theorem shelf_X_Builder_Extra_156 : Builder.Extra Tryd.prog shelf_156_ren where
  sizeBuilder := by kernel_rfl
  liesBuilder := by kernel_rfl
  t5 := Tryd.underlying5
  a5 := Tryd.isAgg5
  z5 := Tryd.sizeOf5
  v5 := Tryd.zeroValue5
  infoByte := by kernel_rfl
  cellsByte := by kernel_rfl
  sizeByte := by kernel_rfl
  neB5 := by decide

theorem FormatInt_10 (a0 a1 : Int) (w : World) (hG : Glob w) (s0 : -9223372036854775808 ≤ a0 ∧ a0 ≤ 9223372036854775807) (s1 : a1 = 10) :
    Calls Tryd.prog 108 #[.int .i64 a0, .int .i64 a1] w fun e w' => e = .returned (.string (bs (Go.Lib.itoa a0))) ∧ Below w.heap.size w w' := by
  subst s1
  refine (show Calls Tryd.prog 108 #[.int .i64 a0, .int .i64 10] w _ from Any.strconv_FormatInt_10 shelf_M173 a0 s0.1 s0.2 w hG).mono ?_
  rintro e w' ⟨rfl, k, os, rfl⟩
  exact ⟨rfl, grow_below _ _ _⟩

theorem map_bs (xs : List (List UInt8)) : (xs.map bs).map (fun x : ByteArray => x.data.toList) = xs := by
  rw [List.map_map]
  exact (List.map_congr_left fun x _ => by simp [bs]).trans (List.map_id xs)

theorem Join_Str (A : Option Addr) (c : Nat) (a0 : List (List UInt8)) (a1 : List UInt8) (w : World) (h0 : Sl eTxt w (Old w) A c a0) (s0 : a0.length ≤ 1000000000) (s1 : (Go.Lib.join a0 a1).length ≤ 1000000000) :
    Calls Tryd.prog 61 #[.slice A a0.length c, .string (bs a1)] w fun e w' => e = .returned (.string (bs (Go.Lib.join a0 a1))) ∧ Below w.heap.size w w' := by
  by_cases hx : a0 = []
  · subst hx
    refine (show Calls Tryd.prog 61 #[.slice A 0 c, .string (bs a1)] w _ from Any.strings_Join_none shelf_156 shelf_X_Builder_Extra_156 A c (bs a1) w).mono ?_
    rintro e w' ⟨rfl, rfl⟩
    exact ⟨rfl, Below.refl _ _⟩
  · obtain ⟨b, off, rfl, hb, hc⟩ := h0.2.2 hx
    have hl : a0.length = (a0.map bs).length := (List.length_map _).symm
    have hj : Go.Lib.join ((a0.map bs).map (·.data.toList)) (bs a1).data.toList = Go.Lib.join a0 a1 := by rw [map_bs]
    rw [hl]
    refine (show Calls Tryd.prog 61 #[.slice (some ⟨b, off, none⟩) (a0.map bs).length c, .string (bs a1)] w _ from Any.strings_Join shelf_156 shelf_X_Builder_Extra_156 b off c (a0.map bs) (bs a1) w ?_ hb (by rw [← hl]; omega) (by rw [← hl]; exact h0.1) (by rw [hj]; omega)).mono ?_
    · intro j x hjx
      rw [List.getElem?_map, Option.map_eq_some_iff] at hjx
      obtain ⟨y, hy, rfl⟩ := hjx
      obtain ⟨es, ⟨rfl, _⟩, h2⟩ := hc j y hy
      have := h2 0 _ rfl
      rwa [show off + j * eTxt.size + 0 = off + j from by simp [eTxt]] at this
    · rintro e w' ⟨rfl, h2⟩
      rw [hj]
      exact ⟨rfl, h2⟩

/-- The decimal digits of a number, the last one first, as bytes; none for 0. -/
def lowD (n : Nat) : List Int := if h : n = 0 then [] else (48 + (n % 10 : Nat) : Int) :: lowD (n / 10)
termination_by n
decreasing_by omega

theorem lowD_zero : lowD 0 = [] := by rw [lowD, dif_pos rfl]

theorem lowD_pos {n : Nat} (h : 0 < n) : lowD n = (48 + (n % 10 : Nat) : Int) :: lowD (n / 10) := by rw [lowD, dif_neg (by omega)]

theorem bytesOf_app (a b : List Int) : Go.Lib.bytesOf (a ++ b) = Go.Lib.bytesOf a ++ Go.Lib.bytesOf b := by simp [Go.Lib.bytesOf]

theorem bytesOf_one (a : Nat) : Go.Lib.bytesOf [(48 + (a : Nat) : Int)] = [UInt8.ofNat (48 + a)] := by
  simp only [Go.Lib.bytesOf, List.map_cons, List.map_nil]
  rw [show (48 + (a : Int)).toNat = 48 + a from by omega]

theorem lowD_dec (n : Nat) (h : 0 < n) : Go.Lib.bytesOf (lowD n).reverse = Go.Lib.decDigits n := by
  induction n using Nat.strongRecOn with
  | _ n ih =>
    rw [lowD_pos h, List.reverse_cons, bytesOf_app, bytesOf_one, Go.Lib.decDigits]
    by_cases h1 : n < 10
    · rw [dif_pos h1, show n / 10 = 0 from by omega, lowD_zero, Nat.mod_eq_of_lt h1]; rfl
    · rw [dif_neg h1, ih (n / 10) (by omega) (by omega)]

theorem nDigits_le (k : Nat) : ∀ n : Nat, n < 10 ^ (k + 1) → Go.Lib.nDigits n ≤ k + 1 := by
  induction k with
  | zero => intro n h; rw [Go.Lib.nDigits_small (by simpa using h)]; omega
  | succ k ih =>
    intro n h
    by_cases h1 : n < 10
    · rw [Go.Lib.nDigits_small h1]; omega
    · rw [Go.Lib.nDigits_big h1]; have := ih (n / 10) (by rw [Nat.pow_succ] at h; omega); omega

theorem itoa_len {n : Int} (h : -9223372036854775808 ≤ n ∧ n ≤ 9223372036854775807) : 1 ≤ (Go.Lib.itoa n).length ∧ (Go.Lib.itoa n).length ≤ 20 := by
  unfold Go.Lib.itoa
  split
  · have h1 := nDigits_le 18 n.natAbs (by omega)
    have h2 := Go.Lib.nDigits_pos n.natAbs
    rw [List.length_cons, Go.Lib.decDigits_length]; omega
  · have h1 := nDigits_le 18 n.toNat (by omega)
    have h2 := Go.Lib.nDigits_pos n.toNat
    rw [Go.Lib.decDigits_length]; omega

theorem itoa_low {n : Int} (h : 0 < n) : Go.Lib.itoa n = Go.Lib.bytesOf (lowD n.toNat).reverse := by
  rw [lowD_dec _ (by omega)]; unfold Go.Lib.itoa; rw [if_neg (by omega)]

theorem join_snoc (xs : List (List UInt8)) (y sep : List UInt8) : Go.Lib.join (xs ++ [y]) sep = if xs = [] then y else Go.Lib.join xs sep ++ sep ++ y := by
  cases xs with
  | nil => rw [if_pos rfl, List.nil_append, Go.Lib.join_one]
  | cons x r => rw [if_neg (by simp), List.cons_append, Go.Lib.join_cons, Go.Lib.join_cons]; simp [Go.Lib.joinTail]

theorem join_step {α : Type} (f : α → List UInt8) (l : List α) {k : Nat} (hk : k < l.length) (sep : List UInt8) : Go.Lib.join ((l.take (k + 1)).map f) sep = if k = 0 then f l[k] else Go.Lib.join ((l.take k).map f) sep ++ sep ++ f l[k] := by
  rw [List.take_succ_eq_append_getElem hk, List.map_append, List.map_cons, List.map_nil, join_snoc]
  by_cases h : k = 0
  · subst h; simp
  · rw [if_neg h, if_neg]
    intro h2
    have h3 := congrArg List.length h2
    rw [List.length_map, List.length_take, List.length_nil] at h3
    omega

theorem join_len (B : Nat) (sep : List UInt8) : ∀ xs : List (List UInt8), (∀ x ∈ xs, x.length ≤ B) → (Go.Lib.join xs sep).length ≤ xs.length * (B + sep.length)
  | [], _ => by simp [Go.Lib.join_nil]
  | x :: r, h => by
    have h1 := h x (by simp)
    have h2 : Go.Lib.lens r ≤ r.length * B := by
      have h3 : ∀ y ∈ r, y.length ≤ B := fun y hy => h y (by simp [hy])
      clear h
      induction r with
      | nil => simp [Go.Lib.lens]
      | cons y r ih =>
        have h4 := ih fun z hz => h3 z (by simp [hz])
        have h5 := h3 y (by simp)
        simp only [Go.Lib.lens, List.map_cons, List.sum_cons, List.length_cons, Nat.succ_mul] at h4 ⊢
        omega
    rw [Go.Lib.join_length, List.length_cons, Nat.succ_mul]
    simp only [Go.Lib.lens, List.map_cons, List.sum_cons] at h2 ⊢
    have h6 : sep.length * r.length = r.length * sep.length := Nat.mul_comm _ _
    have h7 : r.length * (B + sep.length) = r.length * B + r.length * sep.length := Nat.mul_add _ _ _
    omega

theorem drop_revI {α : Type} {l : List α} {k : Nat} (h0 : 0 < k) (h1 : k ≤ l.length) : (l.drop (k - 1)).reverse = (l.drop k).reverse ++ [l[k - 1]] := by
  rw [List.drop_eq_getElem_cons (by omega : k - 1 < l.length), List.reverse_cons, show k - 1 + 1 = k from by omega]

theorem Sl.i64 {w : World} {S : Nat → Prop} {A : Option Addr} {c : Nat} {xs : List Int} (h : Sl eInt w S A c xs) : ∀ x ∈ xs, -9223372036854775808 ≤ x ∧ x ≤ 9223372036854775807 := by
  intro x hx
  obtain ⟨i, hi⟩ := List.mem_iff_getElem?.1 hx
  obtain ⟨b, off, _, _, hc⟩ := h.2.2 (fun e => by rw [e] at hx; cases hx)
  obtain ⟨es, ⟨_, h1⟩, _⟩ := hc i x hi
  exact h1

theorem join_take_len {α : Type} {f : α → List UInt8} {l : List α} {sep : List UInt8} {B : Nat} (h : ∀ x ∈ l, (f x).length + sep.length ≤ B) (k : Nat) : (Go.Lib.join ((l.take k).map f) sep).length ≤ B * l.length := by
  by_cases hn : l = []
  · subst hn; simp [Go.Lib.join_nil]
  · obtain ⟨x0, hx0⟩ := List.exists_mem_of_ne_nil l hn
    have hs := h x0 hx0
    have h1 := join_len (B - sep.length) sep ((l.take k).map f) (by
      intro y hy
      obtain ⟨x, hx, rfl⟩ := List.mem_map.1 hy
      have := h x (List.mem_of_mem_take hx)
      omega)
    rw [List.length_map, List.length_take, show B - sep.length + sep.length = B from by omega] at h1
    have h2 : min k l.length * B ≤ l.length * B := Nat.mul_le_mul_right _ (by omega)
    rw [Nat.mul_comm B]
    omega

theorem join_step0 {α : Type} (f : α → List UInt8) (l : List α) {k : Nat} (hk : k < l.length) (h0 : k = 0) (sep : List UInt8) : Go.Lib.join ((l.take (k + 1)).map f) sep = Go.Lib.join ((l.take k).map f) sep ++ f l[k] := by
  rw [join_step f l hk, if_pos h0]; subst h0; simp [Go.Lib.join_nil]

theorem join_step1 {α : Type} (f : α → List UInt8) (l : List α) {k : Nat} (hk : k < l.length) (h0 : 0 < k) (sep : List UInt8) : Go.Lib.join ((l.take (k + 1)).map f) sep = Go.Lib.join ((l.take k).map f) sep ++ sep ++ f l[k] := by
  rw [join_step f l hk, if_neg (by omega)]

theorem ne_nil {α : Type} {l : List α} (h : ¬ l.length = 0) : ¬ l = [] := fun e => h (by rw [e]; rfl)

theorem eq_nil {α : Type} {l : List α} (h : l.length = 0) : l = [] := List.eq_nil_of_length_eq_zero h

set_option maxRecDepth 100000 in
set_option maxHeartbeats 4000000 in
theorem impl_Decimal (a0 : Int) (w : World) (hG : Glob w) (s0 : -9223372036854775808 ≤ a0 ∧ a0 ≤ 9223372036854775807) :
    Calls Tryd.prog 60 #[.int .i64 a0] w fun e w' => e = .returned (.string (bs (Go.Lib.itoa a0))) ∧ Below w.heap.size w w' := by
  have HH1 := Held.start Nob w
  refine enter (n := 5) Tryd.func60 rfl rfl rfl fun a_2 HE3 => ?_
  refine wp_seq ?_
  refine rg ?_
  refine pl_x HE3 HH1 (wt0 rfl) (x_assign rfl) rfl rfl fun a_4 HE5 => ?_
  refine wpList_nil ?_
  clear a_2 HE3
  refine nrm ?_
  refine wp_seq ?_
  refine rg ?_
  refine pl_x HE5 HH1 (wt0 rfl) (x_move rfl) rfl rfl fun a_6 HE7 => ?_
  refine pl fun K_8 hK9 => ?_
  refine st_call HE7 (wt0 rfl) rfl rfl rfl en_108 rfl rfl (FormatInt_10 a0 10 _ (HH1.glob hG) (by omega) (by rfl)) fun e w' hr => ?_
  have hAr21_0 := itoa_len (n := a0) (by omega)
  obtain ⟨rfl, hbr21⟩ := hr
  have HH10 := HH1.on hbr21
  refine ⟨_, rfl, fun a_11 HE12 => hK9 _ _ ?_⟩
  refine pl_x HE12 HH10 (wt0 rfl) (x_assign rfl) rfl rfl fun a_13 HE14 => ?_
  refine wpList_nil ?_
  clear a_4 HE5 HH1 a_6 HE7 a_11 HE12 hK9 K_8
  refine nrm ?_
  refine wp_ret ?_
  refine ret1 HE14 rfl (rv_tmp rfl) ?_
  have hF : (Go.Lib.itoa a0) = (Go.Lib.itoa a0) := by
    first | rfl | (simp [Go.Lib.itoa]; done) | (simp [Go.Lib.itoa]; omega) | grind [Go.Lib.itoa]
  exact ⟨by first | (rw [hF] <;> rfl) | rfl | (rw [hF]; simp only [Ending.returned.injEq, Value.slice.injEq, true_and, and_true]; first | omega | (simp; done)) | (rw [hF]; simp; omega), HH10.below⟩

set_option maxRecDepth 100000 in
set_option maxHeartbeats 4000000 in
theorem spec_l01Dec (a0 : Int) (w : World) (s0 : 0 ≤ a0 ∧ a0 ≤ 100000000000000) :
    Calls Tryd.prog 103 #[.int .i64 a0] w fun e w' => e = .returned (.string (bs (Go.Lib.itoa a0))) ∧ Below w.heap.size w w' := by
  have HH1 := Held.start Nob w
  refine enter (n := 50) Tryd.func103 rfl rfl rfl fun a_2 HE3 => ?_
  refine wp_seq ?_
  refine rg ?_
  refine pl_x HE3 HH1 (wt0 rfl) (x_assign rfl) rfl rfl fun a_4 HE5 => ?_
  refine wpList_nil ?_
  clear a_2 HE3
  refine nrm ?_
  refine wp_seq ?_
  refine wp_seq ?_
  refine rg ?_
  refine pl_x HE5 HH1 (wt0 rfl) (x_move rfl) rfl rfl fun a_6 HE7 => ?_
  refine pl_x HE7 HH1 (wt0 rfl) (x_eql rfl rfl) rfl rfl fun a_8 HE9 => ?_
  refine wpList_nil ?_
  clear a_4 HE5 a_6 HE7
  refine nrm ?_
  refine cnd_e HE9 rfl (fun hc21 => ?_) (fun hc21 => ?_)
  · refine wp_seq ?_
    refine rg ?_
    refine pl_x HE9 HH1 (wt0 rfl) (x_assign rfl) rfl rfl fun a_10 HE11 => ?_
    refine wpList_nil ?_
    clear a_8 HE9
    refine nrm ?_
    refine wp_ret ?_
    refine (thn_ret ?_)
    refine ret1 HE11 rfl (rv_tmp rfl) ?_
    have hF : (Go.Lib.itoa a0) = [48] := by
      first | (rw [show a0 = 0 from by omega]; simp [Go.Lib.itoa, Go.Lib.decDigits]; done) | (rw [itoa_low (by omega), ‹lowD a0.toNat = _›, show u = 0 from by omega, lowD_zero, List.append_nil, show k = 0 from by omega, List.drop_zero])
    exact ⟨by first | (rw [hF] <;> rfl) | rfl | (rw [hF]; simp only [Ending.returned.injEq, Value.slice.injEq, true_and, and_true]; first | omega | (simp; done)) | (rw [hF]; simp; omega), HH1.below⟩
  · refine wp_skip ?_
    refine nrm ?_
    refine wp_seq ?_
    refine rg ?_
    refine pl fun K_12 hK13 => ?_
    refine st_lit (m := 0) (cs := []) (e := 5) HE9 HH1 (run_lit ts_159 HE9 (vs := []) rfl rfl (by simp [Value.cells]) rfl (by decide)) (wt0 rfl) rfl rfl fun q22 a_14 w' HE15 HH16 => hK13 _ _ ?_
    refine pl_x HE15 HH16 (wt0 rfl) (x_assign rfl) rfl rfl fun a_17 HE18 => ?_
    refine wpList_nil ?_
    clear a_8 HE9 HH1 a_14 HE15 hK13 K_12
    refine nrm ?_
    refine wp_seq ?_
    refine wp_seq ?_
    refine rg ?_
    refine pl_x HE18 HH16 (wt0 rfl) (x_move rfl) rfl rfl fun a_19 HE20 => ?_
    refine pl_x HE20 HH16 (wt0 rfl) (x_assign rfl) rfl rfl fun a_21 HE22 => ?_
    refine wpList_nil ?_
    clear a_17 HE18 a_19 HE20
    refine nrm ?_
    refine wp_block ?_
    have HH23 := Held.vecFlat (E := eByte) (xs := []) (css := []) HH16 rfl (Nat.zero_le _) (fun i x hx => by simp at hx)
    refine lp (fun m a w' => ∃ (u : Nat) (l : List Int) (A_3 : Option Addr) (c_3 : Nat) (S_3 : Nat → Prop), m = 0 + u ∧ Env 50 [(3, .slice A_3 (List.length l) c_3), (4, .int .i64 (u : Int)), (0, .int .i64 (a0))] a ∧ Held Nob w [rVec eByte 5 S_3 A_3 c_3 l] w' ∧ (lowD a0.toNat = l ++ lowD u) ∧ (l.length + u ≤ a0.toNat)) (0 + (a0.toNat)) ?_ ?_
    · have E23 : ([]) = ([] : List Int) := by
        first | rfl | simp
      exact ⟨a0.toNat, [], (some ⟨q22, 0, none⟩), (List.length (α := Int) []), (fun b => b = q22), rfl, HE22.sub ⟨(by rw [E23]; rfl), (lkI rfl (by omega)), rfl, trivial⟩, ((HH23.sel [0] (by decide) rfl).to (by first | rfl | (rw [E23]; done) | (rw [E23]; rfl) | (simp only [E23]; done) | (simp only [E23]; rfl))), (by rfl), (by first | omega | assumption | (simp; done) | simp_all)⟩
    · rintro m a_24 w' ⟨u, l, A_3, c_3, S_3, rfl, HE25, HH26, p24_0, p24_1⟩
      refine wp_seq ?_
      refine wp_seq ?_
      refine rg ?_
      refine pl_x HE25 HH26 (wt0 rfl) (x_move rfl) rfl rfl fun a_27 HE28 => ?_
      refine pl_x HE28 HH26 (wt0 rfl) (x_neq rfl rfl) rfl rfl fun a_29 HE30 => ?_
      refine wpList_nil ?_
      clear HH16 a_21 HE22 HH23 a_24 HE25 a_27 HE28
      refine nrm ?_
      refine cnd_ne HE30 rfl (fun hc25 => ?_) (fun hc25 => ?_)
      · refine wp_skip ?_
        refine nrm ?_
        refine wp_seq ?_
        refine wp_block ?_
        refine wp_seq ?_
        refine rg ?_
        refine pl_x HE30 HH26 (wt0 rfl) (x_move rfl) rfl rfl fun a_31 HE32 => ?_
        refine pl_x HE32 HH26 (wt0 rfl) (x_rem rfl rfl (by omega) (by omega)) rfl rfl fun a_33 HE34 => ?_
        refine pl_x HE34 HH26 (wt0 rfl) (x_assign rfl) rfl rfl fun a_35 HE36 => ?_
        refine wpList_nil ?_
        clear a_29 HE30 a_31 HE32 a_33 HE34
        refine nrm ?_
        refine wp_seq ?_
        refine wp_seq ?_
        refine rg ?_
        refine pl_x HE36 HH26 (wt0 rfl) (x_move rfl) rfl rfl fun a_37 HE38 => ?_
        refine pl_x HE38 HH26 (wt0 rfl) (x_lss rfl rfl) rfl rfl fun a_39 HE40 => ?_
        refine wpList_nil ?_
        clear a_35 HE36 a_37 HE38
        refine nrm ?_
        refine cnd_d HE40 rfl (fun hc26 => ?_) (fun hc26 => ?_)
        · exfalso; omega
        · refine wp_skip ?_
          refine nrm ?_
          refine rg ?_
          refine pl_x HE40 HH26 (wt0 rfl) (x_move rfl) rfl rfl fun a_41 HE42 => ?_
          refine pl_x HE42 HH26 (wt0 rfl) (x_move rfl) rfl rfl fun a_43 HE44 => ?_
          refine pl_x HE44 HH26 (wt0 rfl) (x_add rfl rfl (by exact ⟨by omega, by omega⟩)) rfl rfl fun a_45 HE46 => ?_
          refine pl_x HE46 HH26 (wt0 rfl) (x_conv8 Tryd.underlying2 Tryd.underlying5 rfl (by constructor <;> omega)) rfl rfl fun a_47 HE48 => ?_
          refine pl fun K_49 hK50 => ?_
          refine st_lit (m := 1) (cs := [.int .u8 ((48 + ((u : Int) % 10)))]) (e := 5) HE48 HH26 (run_lit ts_159 HE48 (vs := [.int .u8 ((48 + ((u : Int) % 10)))]) rfl rfl (by simp [Value.cells]) rfl (by decide)) (wt0 rfl) rfl rfl fun q27 a_51 w' HE52 HH53 => hK50 _ _ ?_
          refine pl fun K_54 hK55 => ?_
          refine st_app1F (48 + ((u : Int) % 10)) HE52 HH53 ts_159 [1, 0] (by decide) rfl (fun _ => (oY (by constructor <;> omega))) rfl rfl (by simp [Value.oneCell']) (by unfold maxLen; first | omega | (simp; done) | (simp; omega)) (by first | omega | (simp; done) | (simp; omega)) (wt0 rfl) rfl fun A28 c29 S30 a_56 w' HE57 HH58 => hK55 _ _ ?_
          refine pl_x HE57 HH58 (wt0 rfl) (x_assign rfl) rfl rfl fun a_59 HE60 => ?_
          refine wpList_nil ?_
          clear a_39 HE40 a_41 HE42 a_43 HE44 a_45 HE46 a_47 HE48 HH26 K_49 hK50 a_51 HE52 HH53 a_56 HE57 hK55 K_54
          refine blk_n ?_
          refine nrm ?_
          refine rg ?_
          refine pl_x HE60 HH58 (wt0 rfl) (x_move rfl) rfl rfl fun a_61 HE62 => ?_
          refine pl_x HE62 HH58 (wt0 rfl) (x_quo rfl rfl (by omega) (by omega) (by omega)) rfl rfl fun a_63 HE64 => ?_
          refine pl_x HE64 HH58 (wt0 rfl) (x_assign rfl) rfl rfl fun a_65 HE66 => ?_
          refine wpList_nil ?_
          clear a_59 HE60 a_61 HE62 a_63 HE64
          have E31 : ((l ++ [(48 + ((u : Int) % 10))])) = (l ++ [(48 + ((u : Int) % 10))]) := by
            first | rfl | simp
          exact nrm ⟨0 + (u / 10), (by omega), u / 10, (l ++ [(48 + ((u : Int) % 10))]), A28, c29, S30, rfl, HE66.sub ⟨(by rw [E31]; rfl), (lkI rfl (by omega)), rfl, trivial⟩, ((HH58.sel [0] (by decide) rfl).to (by first | rfl | (rw [E31]; done) | (rw [E31]; rfl) | (simp only [E31]; done) | (simp only [E31]; rfl))), (by rw [p24_0, lowD_pos (by omega)]; simp), (by simp; omega)⟩
      · refine wp_exit ?_
        refine (thn_exit (thn_exit (blk_hit ?_)))
        refine nrm ?_
        refine wp_seq ?_
        refine wp_seq ?_
        refine rg ?_
        refine pl_x HE30 HH26 (wt0 rfl) (x_move rfl) rfl rfl fun a_67 HE68 => ?_
        refine pl_x HE68 HH26 (wt0 rfl) (x_lss rfl rfl) rfl rfl fun a_69 HE70 => ?_
        refine wpList_nil ?_
        clear a_29 HE30 a_67 HE68
        refine nrm ?_
        refine cnd_d HE70 rfl (fun hc32 => ?_) (fun hc32 => ?_)
        · exfalso; omega
        · refine wp_skip ?_
          refine nrm ?_
          refine wp_seq ?_
          refine rg ?_
          refine pl fun K_71 hK72 => ?_
          refine st_lit (m := 0) (cs := []) (e := 5) HE70 HH26 (run_lit ts_159 HE70 (vs := []) rfl rfl (by simp [Value.cells]) rfl (by decide)) (wt0 rfl) rfl rfl fun q33 a_73 w' HE74 HH75 => hK72 _ _ ?_
          refine pl_x HE74 HH75 (wt0 rfl) (x_assign rfl) rfl rfl fun a_76 HE77 => ?_
          refine wpList_nil ?_
          clear a_69 HE70 HH26 a_73 HE74 hK72 K_71
          refine nrm ?_
          refine wp_seq ?_
          refine wp_seq ?_
          refine rg ?_
          refine pl_x HE77 HH75 (wt0 rfl) (x_move rfl) rfl rfl fun a_78 HE79 => ?_
          refine pl_x HE79 HH75 (wt0 rfl) (x_len Tryd.underlying159 rfl) rfl rfl fun a_80 HE81 => ?_
          refine pl_x HE81 HH75 (wt0 rfl) (x_sub rfl rfl (by exact ⟨by omega, by omega⟩)) rfl rfl fun a_82 HE83 => ?_
          refine pl_x HE83 HH75 (wt0 rfl) (x_assign rfl) rfl rfl fun a_84 HE85 => ?_
          refine wpList_nil ?_
          clear a_76 HE77 a_78 HE79 a_80 HE81 a_82 HE83
          refine nrm ?_
          refine wp_block ?_
          have HH86 := Held.vecFlat (E := eByte) (xs := []) (css := []) HH75 rfl (Nat.zero_le _) (fun i x hx => by simp at hx)
          have HH87 := HH86.sel [1, 0] (by decide) rfl
          have HH88 := HH87.vecSo
          refine lp (fun m a w' => ∃ (k : Nat) (A_6 : Option Addr) (c_6 : Nat) (S_6 : Nat → Prop), m = 0 + k ∧ Env 50 [(6, .slice A_6 (List.length ((l.drop k).reverse)) c_6), (7, .int .i64 ((k : Int) - 1)), (3, .slice A_3 ((List.length l)) c_3)] a ∧ Held Nob w [rVec eByte 5 S_6 A_6 c_6 ((l.drop k).reverse), rSo eByte S_3 A_3 c_3 l] w' ∧ (k ≤ l.length)) (0 + (l.length)) ?_ ?_
          · have E34 : (l.drop (l.length)).reverse = ([] : List Int) := by
              simp
            exact ⟨l.length, (some ⟨q33, 0, none⟩), (List.length (α := Int) []), (fun b => b = q33), rfl, HE85.sub ⟨(by rw [E34]; rfl), (lkI rfl (by first | rfl | omega | (simp [hc21, p24_0, p24_1, hc25, hc32]; done))), rfl, trivial⟩, ((HH88.sel [1, 0] (by decide) rfl).to (by first | rfl | (rw [E34]; done) | (rw [E34]; rfl) | (simp only [E34]; done) | (simp only [E34]; rfl))), (by first | omega | assumption | (simp; done) | simp_all)⟩
          · rintro m a_89 w' ⟨k, A_6, c_6, S_6, rfl, HE90, HH91, p35_0⟩
            have ol : (l.drop k).reverse.length ≤ l.length := by simp
            refine wp_seq ?_
            refine wp_seq ?_
            refine rg ?_
            refine pl_x HE90 HH91 (wt0 rfl) (x_move rfl) rfl rfl fun a_92 HE93 => ?_
            refine pl_x HE93 HH91 (wt0 rfl) (x_geq rfl rfl) rfl rfl fun a_94 HE95 => ?_
            refine wpList_nil ?_
            clear HH75 HH86 HH87 a_84 HE85 HH88 a_89 HE90 a_92 HE93
            refine nrm ?_
            refine cnd_d HE95 rfl (fun hc36 => ?_) (fun hc36 => ?_)
            · refine wp_skip ?_
              refine nrm ?_
              refine wp_seq ?_
              refine wp_block ?_
              refine rg ?_
              refine pl_x HE95 HH91 (wt0 rfl) (x_move rfl) rfl rfl fun a_96 HE97 => ?_
              refine pl_x HE97 HH91 (wt0 rfl) (x_move rfl) rfl rfl fun a_98 HE99 => ?_
              refine pl_x HE99 HH91 (wt0 rfl) (x_move rfl) rfl rfl fun a_100 HE101 => ?_
              have ke37 : (k - 1) < (List.length l) := by omega
              obtain ⟨be37, fe37, rfl⟩ := el_own HH91 (i := 1) rfl ke37
              refine pl_x HE101 HH91 (wt0 rfl) (x_indexAddr ts_159 rfl rfl rfl (by omega) ke37) rfl rfl fun a_102 HE103 => ?_
              obtain ⟨y38, xy38⟩ : ∃ y_, y_ = l[(k - 1)]'(by first | exact ke37 | (simp only [List.length_set]; exact ke37) | omega | (simp only [List.length_set]; omega) | (simp; omega)) := ⟨_, rfl⟩
              have jy38 : 0 ≤ y38 ∧ y38 ≤ 255 := by rw [xy38]; exact i_ownY HH91 1 rfl _
              refine pl_x HE103 HH91 (wt0 rfl) (x_load1 tv_5 rfl (c_ownY 1 rfl (by first | exact ke37 | (simp only [List.length_set]; exact ke37) | omega | (simp only [List.length_set]; omega) | (simp; omega)) xy38.symm)) rfl rfl fun a_104 HE105 => ?_
              refine pl fun K_106 hK107 => ?_
              refine st_lit (m := 1) (cs := [.int .u8 (y38)]) (e := 5) HE105 HH91 (run_lit ts_159 HE105 (vs := [.int .u8 (y38)]) rfl rfl (by simp [Value.cells]) rfl (by decide)) (wt0 rfl) rfl rfl fun q39 a_108 w' HE109 HH110 => hK107 _ _ ?_
              refine pl fun K_111 hK112 => ?_
              refine st_app1F y38 HE109 HH110 ts_159 [1, 0, 2] (by decide) rfl (fun _ => (oY (by constructor <;> omega))) rfl rfl (by simp [Value.oneCell']) (by unfold maxLen; first | omega | (simp; done) | (simp; omega)) (by first | omega | (simp; done) | (simp; omega)) (wt0 rfl) rfl fun A40 c41 S42 a_113 w' HE114 HH115 => hK112 _ _ ?_
              refine pl_x HE114 HH115 (wt0 rfl) (x_assign rfl) rfl rfl fun a_116 HE117 => ?_
              refine wpList_nil ?_
              clear a_94 HE95 a_96 HE97 a_98 HE99 a_100 HE101 a_102 HE103 a_104 HE105 HH91 K_106 hK107 a_108 HE109 HH110 a_113 HE114 hK112 K_111
              refine blk_n ?_
              refine nrm ?_
              refine rg ?_
              refine pl_x HE117 HH115 (wt0 rfl) (x_move rfl) rfl rfl fun a_118 HE119 => ?_
              refine pl_x HE119 HH115 (wt0 rfl) (x_sub rfl rfl (by exact ⟨by omega, by omega⟩)) rfl rfl fun a_120 HE121 => ?_
              refine pl_x HE121 HH115 (wt0 rfl) (x_assign rfl) rfl rfl fun a_122 HE123 => ?_
              refine wpList_nil ?_
              clear a_116 HE117 a_118 HE119 a_120 HE121
              have E43 : (l.drop ((k - 1))).reverse = ((l.drop k).reverse ++ [y38]) := by
                rw [drop_revI (by omega) (by omega), ← xy38]
              exact nrm ⟨0 + ((k - 1)), (by omega), (k - 1), A40, c41, S42, rfl, HE123.sub ⟨(by rw [E43]; rfl), (lkI rfl (by omega)), rfl, trivial⟩, ((HH115.sel [0, 1] (by decide) rfl).to (by first | rfl | (rw [E43]; done) | (rw [E43]; rfl) | (simp only [E43]; done) | (simp only [E43]; rfl))), (by first | omega | assumption | (simp; done) | simp_all)⟩
            · refine wp_exit ?_
              refine (thn_exit (thn_exit (blk_hit ?_)))
              refine nrm ?_
              refine wp_seq ?_
              refine rg ?_
              refine pl_x HE95 HH91 (wt0 rfl) (x_move rfl) rfl rfl fun a_124 HE125 => ?_
              refine pl_x HE125 HH91 (wt0 rfl) (x_bytes (xs := (l.drop k).reverse) Tryd.underlying159 Tryd.underlying5 Tryd.underlying9 rfl (fun _ h_ => (h_.vecSl (i := 0) rfl))) rfl rfl fun a_126 HE127 => ?_
              refine pl_x HE127 HH91 (wt0 rfl) (x_assign rfl) rfl rfl fun a_128 HE129 => ?_
              refine wpList_nil ?_
              clear a_94 HE95 a_124 HE125 a_126 HE127
              refine nrm ?_
              refine wp_ret ?_
              refine ret1 HE129 rfl (rv_tmp rfl) ?_
              have hF : (Go.Lib.itoa a0) = (Go.Lib.bytesOf ((l.drop k).reverse)) := by
                first | (rw [show a0 = 0 from by omega]; simp [Go.Lib.itoa, Go.Lib.decDigits]; done) | (rw [itoa_low (by omega), ‹lowD a0.toNat = _›, show u = 0 from by omega, lowD_zero, List.append_nil, show k = 0 from by omega, List.drop_zero])
              exact ⟨by first | (rw [hF] <;> rfl) | rfl | (rw [hF]; simp only [Ending.returned.injEq, Value.slice.injEq, true_and, and_true]; first | omega | (simp; done)) | (rw [hF]; simp; omega), HH91.below⟩

def instrT (x : tInstr) : List UInt8 := if x.1 = 0 then [43] ++ (Go.Lib.itoa x.2.1 ++ [62] ++ Go.Lib.itoa x.2.2.1) else [45] ++ (Go.Lib.itoa x.2.1 ++ [62] ++ Go.Lib.itoa x.2.2.1) ++ [58] ++ Go.Lib.itoa x.2.2.2

def progT (p : List tInstr) : List UInt8 := if p = [] then [46] else Go.Lib.join (p.map instrT) [59]

def progText (p : List tInstr) : List UInt8 := if validProg p = true then progT p else []

def okIn (x : tInstr) : Prop := (0 ≤ x.2.1 ∧ x.2.1 ≤ 23) ∧ (0 ≤ x.2.2.1 ∧ x.2.2.1 ≤ 400) ∧ 0 ≤ x.2.2.2 ∧ x.2.2.2 ≤ 400

theorem validProg_ok {p : List tInstr} (h : validProg p = true) : p.length ≤ 400 ∧ ∀ x ∈ p, okIn x := by
  have h1 := validProg_okP h
  refine ⟨h1.1, fun x hx => ?_⟩
  have h2 := validProg_reg h x hx
  have h3 := validProg_to h x hx
  have h4 := h1.1
  exact ⟨h2, ⟨h3.1.1, by omega⟩, h3.2.1, by omega⟩

theorem ins_len {l : List tInstr} (h : ∀ x ∈ l, okIn x) (k : Nat) : (Go.Lib.join ((l.take k).map instrT) [59]).length ≤ 100 * l.length := by
  refine join_take_len (fun x hx => ?_) k
  obtain ⟨h1, h2, h3⟩ := h x hx
  have i1 := itoa_len (n := x.2.1) (by omega)
  have i2 := itoa_len (n := x.2.2.1) (by omega)
  have i3 := itoa_len (n := x.2.2.2) (by omega)
  unfold instrT
  split <;> simp only [List.length_append, List.length_cons, List.length_nil] <;> omega

theorem instrT_len {x : tInstr} (h : okIn x) : (instrT x).length ≤ 99 := by
  obtain ⟨h1, h2, h3⟩ := h
  have i1 := itoa_len (n := x.2.1) (by omega)
  have i2 := itoa_len (n := x.2.2.1) (by omega)
  have i3 := itoa_len (n := x.2.2.2) (by omega)
  unfold instrT
  split <;> simp only [List.length_append, List.length_cons, List.length_nil] <;> omega

set_option maxRecDepth 100000 in
set_option maxHeartbeats 4000000 in
theorem impl_instrText (es0 : List Value) (a0 : tInstr) (w : World) (h0 : eInstr.R w (Old w) es0 a0) (hG : Glob w) (s0 : okIn a0) :
    Calls Tryd.prog 67 #[.agg es0.toArray] w fun e w' => e = .returned (.string (bs (instrT a0))) ∧ Below w.heap.size w w' := by
  have H0 := h0
  obtain ⟨rfl, gz0_0, gz0_1, gz0_2, gz0_3⟩ := shape_Instr h0
  have jz0_0 := gz0_0; unfold I64 at jz0_0
  have jz0_1 := gz0_1; unfold I64 at jz0_1
  have jz0_2 := gz0_2; unfold I64 at jz0_2
  have jz0_3 := gz0_3; unfold I64 at jz0_3
  obtain ⟨v0, v1, v2⟩ := s0
  have HH1 := Held.start Nob w
  refine enter (n := 24) Tryd.func67 rfl rfl rfl fun a_2 HE3 => ?_
  refine wp_seq ?_
  refine rg ?_
  refine pl fun K_4 hK5 => ?_
  refine st_box (cs := [.int .i64 (a0.1), .int .i64 (a0.2.1), .int .i64 (a0.2.2.1), .int .i64 (a0.2.2.2)]) HE3 HH1 rfl rfl (wt0 rfl) rfl fun q21 a_6 w' HE7 HH8 => hK5 _ _ ?_
  refine pl_x HE7 HH8 (wt0 rfl) (x_assign rfl) rfl rfl fun a_9 HE10 => ?_
  refine wpList_nil ?_
  clear a_2 HE3 HH1 a_6 HE7 hK5 K_4
  refine nrm ?_
  refine wp_seq ?_
  refine dr_start (Held Nob w [rBlk q21 112 [.int .i64 (a0.1), .int .i64 (a0.2.1), .int .i64 (a0.2.2.1), .int .i64 (a0.2.2.2)]]) 9 #[false, false, false, false, false, false, false, false, false] hmix rfl rfl HH8 (fun _ h => h.sel [0] (by decide) rfl) fun w' HH11 => ?_
  have HS12 := HH11
  refine dr_take (i := 0) (ls' := #[true, false, false, false, false, false, false, false, false]) HE10 HS12 rfl (by kernel_rfl) (by kernel_rfl) (by kernel_rfl) (fun _ _ _ h => h) rfl (wt0 rfl) (x_fieldAddr fa_112_1 rfl) rfl rfl fun a_13 HE14 => ?_
  refine dr_take (i := 1) (ls' := #[true, true, false, false, false, false, false, false, false]) HE14 HS12 rfl (by kernel_rfl) (by kernel_rfl) (by kernel_rfl) (fun _ _ _ h => h) rfl (wt0 rfl) (x_load1 tv_2 rfl (c_blk 0 rfl rfl)) rfl rfl fun a_15 HE16 => ?_
  refine dr_take (i := 4) (ls' := #[true, true, false, false, true, false, false, false, false]) HE16 HS12 rfl (by kernel_rfl) (by kernel_rfl) (by kernel_rfl) (fun _ _ _ h => h) rfl (wt0 rfl) (x_fieldAddr fa_112_2 rfl) rfl rfl fun a_17 HE18 => ?_
  refine dr_take (i := 5) (ls' := #[true, true, false, false, true, true, false, false, false]) HE18 HS12 rfl (by kernel_rfl) (by kernel_rfl) (by kernel_rfl) (fun _ _ _ h => h) rfl (wt0 rfl) (x_load1 tv_2 rfl (c_blk 0 rfl rfl)) rfl rfl fun a_19 HE20 => ?_
  refine dr_one (i := 2) (ls' := #[true, true, true, false, true, true, false, false, false]) rfl (by kernel_rfl) rfl fun K_21 hK22 => ?_
  refine st_call HE20 (wt0 rfl) rfl rfl rfl en_60 rfl rfl (impl_Decimal a0.2.1 _ (HH11.glob hG) (by omega)) fun e w' hr => ?_
  have hAr22_0 := itoa_len (n := a0.2.1) (by omega)
  obtain ⟨rfl, hbr22⟩ := hr
  have HH23 := HH11.on hbr22
  refine ⟨_, rfl, fun a_24 HE25 => hK22 _ _ (by exact HH23.sel [0] (by decide) rfl) ?_⟩
  have HS26 := HH23.sel [0] (by decide) rfl
  refine dr_take (i := 3) (ls' := #[true, true, true, true, true, true, false, false, false]) HE25 HS26 rfl (by kernel_rfl) (by kernel_rfl) (by kernel_rfl) (fun _ _ _ h => h) rfl (wt0 rfl) (x_sadd rfl rfl (by first | omega | (simp only [List.length_append, List.length_cons, List.length_nil]; omega) | (simp; omega))) rfl rfl fun a_27 HE28 => ?_
  refine dr_one (i := 6) (ls' := #[true, true, true, true, true, true, true, false, false]) rfl (by kernel_rfl) rfl fun K_29 hK30 => ?_
  refine st_call HE28 (wt0 rfl) rfl rfl rfl en_60 rfl rfl (impl_Decimal a0.2.2.1 _ (HH23.glob hG) (by omega)) fun e w' hr => ?_
  have hAr23_0 := itoa_len (n := a0.2.2.1) (by omega)
  obtain ⟨rfl, hbr23⟩ := hr
  have HH31 := HH23.on hbr23
  refine ⟨_, rfl, fun a_32 HE33 => hK30 _ _ (by exact HH31.sel [0] (by decide) rfl) ?_⟩
  have HS34 := HH31.sel [0] (by decide) rfl
  refine dr_take (i := 7) (ls' := #[true, true, true, true, true, true, true, true, false]) HE33 HS34 rfl (by kernel_rfl) (by kernel_rfl) (by kernel_rfl) (fun _ _ _ h => h) rfl (wt0 rfl) (x_sadd rfl rfl (by first | omega | (simp only [List.length_append, List.length_cons, List.length_nil]; omega) | (simp; omega))) rfl rfl fun a_35 HE36 => ?_
  refine dr_take (i := 8) (ls' := #[true, true, true, true, true, true, true, true, true]) HE36 HS34 rfl (by kernel_rfl) (by kernel_rfl) (by kernel_rfl) (fun _ _ _ h => h) rfl (wt0 rfl) (x_assign rfl) rfl rfl fun a_37 HE38 => ?_
  refine dr_done (by kernel_rfl) ?_
  clear HH8 a_9 HE10 a_13 HE14 a_15 HE16 a_17 HE18 HH11 a_19 HE20 HS12 a_24 HE25 K_21 hK22 HH23 a_27 HE28 HS26 a_32 HE33 a_35 HE36 hK30 K_29
  refine nrm ?_
  refine wp_seq ?_
  refine wp_seq ?_
  refine rg ?_
  refine pl_x HE38 HH31 (wt0 rfl) (x_fieldAddr fa_112_0 rfl) rfl rfl fun a_39 HE40 => ?_
  refine pl_x HE40 HH31 (wt0 rfl) (x_load1 tv_2 rfl (c_blk 0 rfl rfl)) rfl rfl fun a_41 HE42 => ?_
  refine pl_x HE42 HH31 (wt0 rfl) (x_eql rfl rfl) rfl rfl fun a_43 HE44 => ?_
  refine wpList_nil ?_
  clear a_37 HE38 a_39 HE40 a_41 HE42
  refine nrm ?_
  refine cnd_e HE44 rfl (fun hc24 => ?_) (fun hc24 => ?_)
  · refine wp_seq ?_
    refine rg ?_
    refine pl_x HE44 HH31 (wt0 rfl) (x_move rfl) rfl rfl fun a_45 HE46 => ?_
    refine pl_x HE46 HH31 (wt0 rfl) (x_sadd rfl rfl (by first | omega | (simp only [List.length_append, List.length_cons, List.length_nil]; omega) | (simp; omega))) rfl rfl fun a_47 HE48 => ?_
    refine pl_x HE48 HH31 (wt0 rfl) (x_assign rfl) rfl rfl fun a_49 HE50 => ?_
    refine wpList_nil ?_
    clear a_43 HE44 a_45 HE46 a_47 HE48
    refine nrm ?_
    refine wp_ret ?_
    refine (thn_ret ?_)
    refine ret1 HE50 rfl (rv_tmp rfl) ?_
    have hF : (instrT a0) = ([43] ++ (((Go.Lib.itoa a0.2.1) ++ [62]) ++ (Go.Lib.itoa a0.2.2.1))) := by
      unfold instrT; first | (rw [if_pos (by omega)]; done) | (rw [if_neg (by omega)]; done)
    exact ⟨by first | (rw [hF] <;> rfl) | rfl | (rw [hF]; simp only [Ending.returned.injEq, Value.slice.injEq, true_and, and_true]; first | omega | (simp; done)) | (rw [hF]; simp; omega), HH31.below⟩
  · refine wp_skip ?_
    refine nrm ?_
    refine wp_seq ?_
    refine rg ?_
    refine pl_x HE44 HH31 (wt0 rfl) (x_move rfl) rfl rfl fun a_51 HE52 => ?_
    refine pl_x HE52 HH31 (wt0 rfl) (x_sadd rfl rfl (by first | omega | (simp only [List.length_append, List.length_cons, List.length_nil]; omega) | (simp; omega))) rfl rfl fun a_53 HE54 => ?_
    refine pl_x HE54 HH31 (wt0 rfl) (x_sadd rfl rfl (by first | omega | (simp only [List.length_append, List.length_cons, List.length_nil]; omega) | (simp; omega))) rfl rfl fun a_55 HE56 => ?_
    refine pl_x HE56 HH31 (wt0 rfl) (x_fieldAddr fa_112_3 rfl) rfl rfl fun a_57 HE58 => ?_
    refine pl_x HE58 HH31 (wt0 rfl) (x_load1 tv_2 rfl (c_blk 0 rfl rfl)) rfl rfl fun a_59 HE60 => ?_
    refine pl fun K_61 hK62 => ?_
    refine st_call HE60 (wt0 rfl) rfl rfl rfl en_60 rfl rfl (impl_Decimal a0.2.2.2 _ (HH31.glob hG) (by omega)) fun e w' hr => ?_
    have hAr25_0 := itoa_len (n := a0.2.2.2) (by omega)
    obtain ⟨rfl, hbr25⟩ := hr
    have HH63 := HH31.on hbr25
    refine ⟨_, rfl, fun a_64 HE65 => hK62 _ _ ?_⟩
    refine pl_x HE65 HH63 (wt0 rfl) (x_sadd rfl rfl (by first | omega | (simp only [List.length_append, List.length_cons, List.length_nil]; omega) | (simp; omega))) rfl rfl fun a_66 HE67 => ?_
    refine pl_x HE67 HH63 (wt0 rfl) (x_assign rfl) rfl rfl fun a_68 HE69 => ?_
    refine wpList_nil ?_
    clear a_43 HE44 a_51 HE52 a_53 HE54 a_55 HE56 a_57 HE58 HH31 a_59 HE60 a_64 HE65 a_66 HE67 hK62 K_61
    refine nrm ?_
    refine wp_ret ?_
    refine ret1 HE69 rfl (rv_tmp rfl) ?_
    have hF : (instrT a0) = ((([45] ++ (((Go.Lib.itoa a0.2.1) ++ [62]) ++ (Go.Lib.itoa a0.2.2.1))) ++ [58]) ++ (Go.Lib.itoa a0.2.2.2)) := by
      unfold instrT; first | (rw [if_pos (by omega)]; done) | (rw [if_neg (by omega)]; done)
    exact ⟨by first | (rw [hF] <;> rfl) | rfl | (rw [hF]; simp only [Ending.returned.injEq, Value.slice.injEq, true_and, and_true]; first | omega | (simp; done)) | (rw [hF]; simp; omega), HH63.below⟩

set_option maxRecDepth 100000 in
set_option maxHeartbeats 4000000 in
theorem impl_ProgramText (A0 : Option Addr) (c0 : Nat) (a0 : (List tInstr)) (w : World) (h0 : Sl eInstr w (Old w) A0 c0 a0) (hG : Glob w) :
    Calls Tryd.prog 22 #[.slice A0 a0.length c0] w fun e w' => e = .returned (.string (bs (progText a0))) ∧ Below w.heap.size w w' := by
  have l0 := h0.len
  have HH1 := Held.start Nob w
  refine enter (n := 27) Tryd.func22 rfl rfl rfl fun a_2 HE3 => ?_
  refine wp_seq ?_
  refine rg ?_
  refine pl_x HE3 HH1 (wt0 rfl) (x_assign rfl) rfl rfl fun a_4 HE5 => ?_
  refine wpList_nil ?_
  clear a_2 HE3
  refine nrm ?_
  refine wp_seq ?_
  refine wp_seq ?_
  refine rg ?_
  refine pl_x HE5 HH1 (wt0 rfl) (x_move rfl) rfl rfl fun a_6 HE7 => ?_
  refine pl fun K_8 hK9 => ?_
  refine st_call HE7 (wt0 rfl) rfl rfl rfl en_66 rfl rfl (impl_ValidProgram _ _ a0 _ (HH1.old h0)) fun e w' hr => ?_
  obtain ⟨rfl, hbr21⟩ := hr
  have HH10 := HH1.on hbr21
  refine ⟨_, rfl, fun a_11 HE12 => hK9 _ _ ?_⟩
  refine pl_x HE12 HH10 (wt0 rfl) (x_not rfl) rfl rfl fun a_13 HE14 => ?_
  refine wpList_nil ?_
  clear a_4 HE5 HH1 a_6 HE7 a_11 HE12 hK9 K_8
  refine nrm ?_
  refine cnd_nb HE14 rfl (fun hc22 => ?_) (fun hc22 => ?_)
  · refine wp_seq ?_
    refine rg ?_
    refine pl_x HE14 HH10 (wt0 rfl) (x_assign rfl) rfl rfl fun a_15 HE16 => ?_
    refine wpList_nil ?_
    clear a_13 HE14
    refine nrm ?_
    refine wp_ret ?_
    refine (thn_ret ?_)
    refine ret1 HE16 rfl (rv_tmp rfl) ?_
    have hF : (progText a0) = [] := by
      unfold progText; first | (rw [if_neg (by simp [hc22])]; done) | (rw [if_pos ‹_›]; unfold progT; first | (rw [if_pos (eq_nil (by omega))]; done) | (rw [if_neg (ne_nil (by omega)), List.take_of_length_le (by omega)]))
    exact ⟨by first | (rw [hF] <;> rfl) | rfl | (rw [hF]; simp only [Ending.returned.injEq, Value.slice.injEq, true_and, and_true]; first | omega | (simp; done)) | (rw [hF]; simp; omega), HH10.below⟩
  · obtain ⟨v0, v1⟩ := validProg_ok hc22
    refine wp_skip ?_
    refine nrm ?_
    refine wp_seq ?_
    refine wp_seq ?_
    refine rg ?_
    refine pl_x HE14 HH10 (wt0 rfl) (x_move rfl) rfl rfl fun a_17 HE18 => ?_
    refine pl_x HE18 HH10 (wt0 rfl) (x_len Tryd.underlying38 rfl) rfl rfl fun a_19 HE20 => ?_
    refine pl_x HE20 HH10 (wt0 rfl) (x_eql rfl rfl) rfl rfl fun a_21 HE22 => ?_
    refine wpList_nil ?_
    clear a_13 HE14 a_17 HE18 a_19 HE20
    refine nrm ?_
    refine cnd_e HE22 rfl (fun hc23 => ?_) (fun hc23 => ?_)
    · refine wp_seq ?_
      refine rg ?_
      refine pl_x HE22 HH10 (wt0 rfl) (x_assign rfl) rfl rfl fun a_23 HE24 => ?_
      refine wpList_nil ?_
      clear a_21 HE22
      refine nrm ?_
      refine wp_ret ?_
      refine (thn_ret ?_)
      refine ret1 HE24 rfl (rv_tmp rfl) ?_
      have hF : (progText a0) = [46] := by
        unfold progText; first | (rw [if_neg (by simp [hc22, hc23])]; done) | (rw [if_pos ‹_›]; unfold progT; first | (rw [if_pos (eq_nil (by omega))]; done) | (rw [if_neg (ne_nil (by omega)), List.take_of_length_le (by omega)]))
      exact ⟨by first | (rw [hF] <;> rfl) | rfl | (rw [hF]; simp only [Ending.returned.injEq, Value.slice.injEq, true_and, and_true]; first | omega | (simp; done)) | (rw [hF]; simp; omega), HH10.below⟩
    · refine wp_skip ?_
      refine nrm ?_
      refine wp_seq ?_
      refine rg ?_
      refine pl fun K_25 hK26 => ?_
      refine st_lit (m := 0) (cs := []) (e := 9) HE22 HH10 (run_lit ts_106 HE22 (vs := []) rfl rfl (by simp [Value.cells]) rfl (by decide)) (wt0 rfl) rfl rfl fun q24 a_27 w' HE28 HH29 => hK26 _ _ ?_
      refine pl_x HE28 HH29 (wt0 rfl) (x_assign rfl) rfl rfl fun a_30 HE31 => ?_
      refine wpList_nil ?_
      clear a_21 HE22 HH10 a_27 HE28 hK26 K_25
      refine nrm ?_
      refine wp_seq ?_
      refine wp_seq ?_
      refine rg ?_
      refine pl_x HE31 HH29 (wt0 rfl) (x_move rfl) rfl rfl fun a_32 HE33 => ?_
      refine pl_x HE33 HH29 (wt0 rfl) (x_len Tryd.underlying38 rfl) rfl rfl fun a_34 HE35 => ?_
      refine pl_x HE35 HH29 (wt0 rfl) (x_move rfl) rfl rfl fun a_36 HE37 => ?_
      refine wpList_nil ?_
      clear a_30 HE31 a_32 HE33 a_34 HE35
      refine nrm ?_
      refine wp_block ?_
      have HH38 := Held.vecFlat (E := eTxt) (xs := []) (css := []) HH29 rfl (Nat.zero_le _) (fun i x hx => by simp at hx)
      refine lp (fun m a w' => ∃ (k : Nat) (A_3 : Option Addr) (c_3 : Nat) (S_3 : Nat → Prop), m = a0.length - k ∧ Env 27 [(3, .slice A_3 (List.length ((a0.take k).map instrT)) c_3), (15, .int .i64 (k : Int)), (13, .slice A0 (a0.length) c0), (14, .int .i64 ((a0.length : Int)))] a ∧ Held Nob w [rVec eTxt 9 S_3 A_3 c_3 ((a0.take k).map instrT)] w' ∧ (k ≤ a0.length)) (a0.length - (0)) ?_ ?_
      · have E25 : (a0.take 0).map instrT = ([] : List (List UInt8)) := by
          first | rfl | simp
        exact ⟨0, (some ⟨q24, 0, none⟩), (List.length (α := (List UInt8)) []), (fun b => b = q24), rfl, HE37.sub ⟨(by rw [E25]; rfl), (lkI rfl (by first | rfl | omega | (simp [hc22, hc23]; done))), rfl, rfl, trivial⟩, ((HH38.sel [0] (by decide) rfl).to (by first | rfl | (rw [E25]; done) | (rw [E25]; rfl) | (simp only [E25]; done) | (simp only [E25]; rfl))), (by first | omega | assumption | (simp; done) | simp_all)⟩
      · rintro m a_39 w' ⟨k, A_3, c_3, S_3, rfl, HE40, HH41, p26_0⟩
        have ol : ((a0.take k).map instrT).length ≤ 400 := by rw [List.length_map, List.length_take]; omega
        have oj := ins_len v1 k
        refine wp_seq ?_
        refine rg ?_
        refine pl_x HE40 HH41 (wt0 rfl) (x_lss rfl rfl) rfl rfl fun a_42 HE43 => ?_
        refine wpList_nil ?_
        clear HH29 a_36 HE37 HH38 a_39 HE40
        refine nrm ?_
        refine wp_seq ?_
        refine cnd_d HE43 rfl (fun hc27 => ?_) (fun hc27 => ?_)
        · refine wp_skip ?_
          refine nrm ?_
          refine wp_seq ?_
          refine wp_block ?_
          refine wp_seq ?_
          refine rg ?_
          have ke28 : k < a0.length := by omega
          obtain ⟨be28, fe28, ese28, Ae28, Re28, De28⟩ := el_old h0 ke28
          obtain ⟨e28, xe28⟩ : ∃ x_, x_ = a0[k] := ⟨_, rfl⟩
          rw [← xe28] at Re28
          have Qe28 := Re28
          obtain ⟨rfl, ge28_0, ge28_1, ge28_2, ge28_3⟩ := shape_Instr Re28
          have je28_0 := ge28_0; unfold I64 at je28_0
          have je28_1 := ge28_1; unfold I64 at je28_1
          have je28_2 := ge28_2; unfold I64 at je28_2
          have je28_3 := ge28_3; unfold I64 at je28_3
          have fe28 := v1 e28 (by rw [xe28]; exact List.getElem_mem _)
          refine pl_x HE43 HH41 (wt0 rfl) (x_indexAddr ts_38 rfl rfl Ae28 rfl ke28) rfl rfl fun a_44 HE45 => ?_
          refine pl_x HE45 HH41 (wt0 rfl) (x_loadN (cs := [.int .i64 (e28.1), .int .i64 (e28.2.1), .int .i64 (e28.2.2.1), .int .i64 (e28.2.2.2)]) tv_112 rfl rfl (c_oldN De28)) rfl rfl fun a_46 HE47 => ?_
          refine pl fun K_48 hK49 => ?_
          refine st_alloc HE47 HH41 tv_112 (wt0 rfl) rfl fun q29 a_50 w' HE51 HH52 => hK49 _ _ ?_
          refine pl fun K_53 hK54 => ?_
          refine st_store (vs := [.int .i64 (e28.1), .int .i64 (e28.2.1), .int .i64 (e28.2.2.1), .int .i64 (e28.2.2.2)]) 0 HE51 HH52 tv_112 rfl rfl rfl rfl rfl rfl (by simp [Value.oneCell']) (wt0 rfl) fun w' HH55 => hK54 _ _ ?_
          refine wpList_nil ?_
          clear a_42 HE43 a_44 HE45 a_46 HE47 HH41 K_48 hK49 HH52 hK54 K_53
          refine nrm ?_
          refine rg ?_
          refine pl_x HE51 HH55 (wt0 rfl) (x_move rfl) rfl rfl fun a_56 HE57 => ?_
          refine pl_x HE57 HH55 (wt0 rfl) (x_loadN (cs := [.int .i64 (e28.1), .int .i64 (e28.2.1), .int .i64 (e28.2.2.1), .int .i64 (e28.2.2.2)]) tv_112 rfl rfl (c_blkN 0 rfl)) rfl rfl fun a_58 HE59 => ?_
          refine pl fun K_60 hK61 => ?_
          refine st_call HE59 (wt0 rfl) rfl rfl rfl en_67 rfl rfl (impl_instrText [.int .i64 (e28.1), .int .i64 (e28.2.1), .int .i64 (e28.2.2.1), .int .i64 (e28.2.2.2)] e28 _ (HH55.oldR Qe28) (HH55.glob hG) (by assumption)) fun e w' hr => ?_
          have hAr30_0 := instrT_len (x := e28) (by assumption)
          obtain ⟨rfl, hbr30⟩ := hr
          have HH62 := HH55.on hbr30
          refine ⟨_, rfl, fun a_63 HE64 => hK61 _ _ ?_⟩
          refine pl fun K_65 hK66 => ?_
          refine st_lit (m := 1) (cs := [.string (bs (instrT e28))]) (e := 9) HE64 HH62 (run_lit ts_106 HE64 (vs := [.string (bs (instrT e28))]) rfl rfl (by simp [Value.cells]) rfl (by decide)) (wt0 rfl) rfl rfl fun q31 a_67 w' HE68 HH69 => hK66 _ _ ?_
          refine pl fun K_70 hK71 => ?_
          refine st_app1F (instrT e28) HE68 HH69 ts_106 [2, 0, 1] (by decide) rfl (fun _ => (oS (by first | omega | (simp only [List.length_append, List.length_cons, List.length_nil]; omega) | (simp; omega)))) rfl rfl (by simp [Value.oneCell']) (by unfold maxLen; first | omega | (simp; done) | (simp; omega)) (by first | omega | (simp; done) | (simp; omega)) (wt0 rfl) rfl fun A32 c33 S34 a_72 w' HE73 HH74 => hK71 _ _ ?_
          refine pl_x HE73 HH74 (wt0 rfl) (x_assign rfl) rfl rfl fun a_75 HE76 => ?_
          refine wpList_nil ?_
          clear a_50 HE51 a_56 HE57 HH55 a_58 HE59 K_60 hK61 a_63 HE64 HH62 K_65 hK66 a_67 HE68 HH69 a_72 HE73 hK71 K_70
          refine blk_n ?_
          refine nrm ?_
          refine rg ?_
          refine pl_x HE76 HH74 (wt0 rfl) (x_add rfl rfl (by exact ⟨by omega, by omega⟩)) rfl rfl fun a_77 HE78 => ?_
          refine pl_x HE78 HH74 (wt0 rfl) (x_move rfl) rfl rfl fun a_79 HE80 => ?_
          refine wpList_nil ?_
          clear a_75 HE76 a_77 HE78
          have E35 : (a0.take (k + 1)).map instrT = ((a0.take k).map instrT ++ [(instrT e28)]) := by
            first | (rw [List.take_succ_eq_append_getElem (by omega), List.map_append, ← xe28]; rfl) | (rw [List.take_succ_eq_append_getElem (by omega), List.map_append, ← xe28]; simp [instrT, hc27])
          exact nrm ⟨a0.length - (k + 1), (by omega), k + 1, A32, c33, S34, rfl, HE80.sub ⟨(by rw [E35]; rfl), (lkI rfl (by first | rfl | omega | (simp [hc22, hc23, p26_0, hc27, xe28]; done))), rfl, rfl, trivial⟩, ((HH74.sel [0] (by decide) rfl).to (by first | rfl | (rw [E35]; done) | (rw [E35]; rfl) | (simp only [E35]; done) | (simp only [E35]; rfl))), (by first | omega | assumption | (simp; done) | simp_all)⟩
        · refine wp_exit ?_
          refine (thn_exit (thn_exit (blk_hit ?_)))
          refine nrm ?_
          refine wp_seq ?_
          refine rg ?_
          refine pl_x HE43 HH41 (wt0 rfl) (x_move rfl) rfl rfl fun a_81 HE82 => ?_
          refine pl fun K_83 hK84 => ?_
          refine st_call HE82 (wt0 rfl) rfl rfl rfl en_61 rfl rfl (Join_Str _ _ ((a0.take k).map instrT) ([59]) _ (HH41.vecSl (i := 0) rfl) (by omega) (by omega)) fun e w' hr => ?_
          obtain ⟨rfl, hbr36⟩ := hr
          have HH85 := HH41.on hbr36
          refine ⟨_, rfl, fun a_86 HE87 => hK84 _ _ ?_⟩
          refine pl_x HE87 HH85 (wt0 rfl) (x_assign rfl) rfl rfl fun a_88 HE89 => ?_
          refine wpList_nil ?_
          clear a_42 HE43 HH41 a_81 HE82 a_86 HE87 hK84 K_83
          refine nrm ?_
          refine wp_ret ?_
          refine ret1 HE89 rfl (rv_tmp rfl) ?_
          have hF : (progText a0) = (Go.Lib.join ((a0.take k).map instrT) ([59])) := by
            unfold progText; first | (rw [if_neg (by simp [hc22, hc23, p26_0, hc27])]; done) | (rw [if_pos ‹_›]; unfold progT; first | (rw [if_pos (eq_nil (by omega))]; done) | (rw [if_neg (ne_nil (by omega)), List.take_of_length_le (by omega)]))
          exact ⟨by first | (rw [hF] <;> rfl) | rfl | (rw [hF]; simp only [Ending.returned.injEq, Value.slice.injEq, true_and, and_true]; first | omega | (simp; done)) | (rw [hF]; simp; omega), HH85.below⟩

set_option maxRecDepth 100000 in
set_option maxHeartbeats 4000000 in
theorem spec_l07Text (A0 : Option Addr) (c0 : Nat) (a0 : (List tInstr)) (w : World) (h0 : Sl eInstr w (Old w) A0 c0 a0) (s0 : a0.length ≤ 400) (v1 : ∀ x ∈ a0, okIn x) :
    Calls Tryd.prog 64 #[.slice A0 a0.length c0] w fun e w' => e = .returned (.string (bs (progT a0))) ∧ Below w.heap.size w w' := by
  have l0 := h0.len
  have HH1 := Held.start Nob w
  refine enter (n := 56) Tryd.func64 rfl rfl rfl fun a_2 HE3 => ?_
  refine wp_seq ?_
  refine rg ?_
  refine pl_x HE3 HH1 (wt0 rfl) (x_assign rfl) rfl rfl fun a_4 HE5 => ?_
  refine wpList_nil ?_
  clear a_2 HE3
  refine nrm ?_
  refine wp_seq ?_
  refine wp_seq ?_
  refine rg ?_
  refine pl_x HE5 HH1 (wt0 rfl) (x_move rfl) rfl rfl fun a_6 HE7 => ?_
  refine pl_x HE7 HH1 (wt0 rfl) (x_len Tryd.underlying38 rfl) rfl rfl fun a_8 HE9 => ?_
  refine pl_x HE9 HH1 (wt0 rfl) (x_eql rfl rfl) rfl rfl fun a_10 HE11 => ?_
  refine wpList_nil ?_
  clear a_4 HE5 a_6 HE7 a_8 HE9
  refine nrm ?_
  refine cnd_e HE11 rfl (fun hc21 => ?_) (fun hc21 => ?_)
  · refine wp_seq ?_
    refine rg ?_
    refine pl_x HE11 HH1 (wt0 rfl) (x_assign rfl) rfl rfl fun a_12 HE13 => ?_
    refine wpList_nil ?_
    clear a_10 HE11
    refine nrm ?_
    refine wp_ret ?_
    refine (thn_ret ?_)
    refine ret1 HE13 rfl (rv_tmp rfl) ?_
    have hF : (progT a0) = [46] := by
      unfold progT; first | (rw [if_pos (eq_nil (by omega))]; done) | (rw [if_neg (ne_nil (by omega)), List.take_of_length_le (by omega)])
    exact ⟨by first | (rw [hF] <;> rfl) | rfl | (rw [hF]; simp only [Ending.returned.injEq, Value.slice.injEq, true_and, and_true]; first | omega | (simp; done)) | (rw [hF]; simp; omega), HH1.below⟩
  · refine wp_skip ?_
    refine nrm ?_
    refine wp_seq ?_
    refine rg ?_
    refine pl_x HE11 HH1 (wt0 rfl) (x_assign rfl) rfl rfl fun a_14 HE15 => ?_
    refine wpList_nil ?_
    clear a_10 HE11
    refine nrm ?_
    refine wp_seq ?_
    refine wp_seq ?_
    refine rg ?_
    refine pl_x HE15 HH1 (wt0 rfl) (x_assign rfl) rfl rfl fun a_16 HE17 => ?_
    refine wpList_nil ?_
    clear a_14 HE15
    refine nrm ?_
    refine wp_block ?_
    refine lp (fun m a w' => ∃ (k : Nat), m = a0.length - k ∧ Env 56 [(3, .string (bs (Go.Lib.join ((a0.take k).map instrT) [59]))), (4, .int .i64 (k : Int)), (0, .slice A0 (a0.length) c0)] a ∧ Held Nob w [] w' ∧ (k ≤ a0.length)) (a0.length - (0)) ?_ ?_
    · exact ⟨0, rfl, HE17.sub ⟨(lkS rfl (by first | rfl | (simp [hc21]; done))), (lkI rfl (by first | rfl | omega | (simp [hc21]; done))), rfl, trivial⟩, (HH1.sel [] (by decide) rfl), (by first | omega | assumption | (simp; done) | simp_all)⟩
    · rintro m a_18 w' ⟨k, rfl, HE19, HH20, p22_0⟩
      have oj := ins_len v1 k
      refine wp_seq ?_
      refine wp_seq ?_
      refine rg ?_
      refine pl_x HE19 HH20 (wt0 rfl) (x_move rfl) rfl rfl fun a_21 HE22 => ?_
      refine pl_x HE22 HH20 (wt0 rfl) (x_move rfl) rfl rfl fun a_23 HE24 => ?_
      refine pl_x HE24 HH20 (wt0 rfl) (x_len Tryd.underlying38 rfl) rfl rfl fun a_25 HE26 => ?_
      refine pl_x HE26 HH20 (wt0 rfl) (x_lss rfl rfl) rfl rfl fun a_27 HE28 => ?_
      refine wpList_nil ?_
      clear a_16 HE17 HH1 a_18 HE19 a_21 HE22 a_23 HE24 a_25 HE26
      refine nrm ?_
      refine cnd_d HE28 rfl (fun hc23 => ?_) (fun hc23 => ?_)
      · refine wp_skip ?_
        refine nrm ?_
        refine wp_seq ?_
        refine wp_block ?_
        refine wp_seq ?_
        refine wp_seq ?_
        refine rg ?_
        refine pl_x HE28 HH20 (wt0 rfl) (x_move rfl) rfl rfl fun a_29 HE30 => ?_
        refine pl_x HE30 HH20 (wt0 rfl) (x_gtr rfl rfl) rfl rfl fun a_31 HE32 => ?_
        refine wpList_nil ?_
        clear a_27 HE28 a_29 HE30
        refine nrm ?_
        refine cnd_d HE32 rfl (fun hc24 => ?_) (fun hc24 => ?_)
        · refine rg ?_
          refine pl_x HE32 HH20 (wt0 rfl) (x_move rfl) rfl rfl fun a_33 HE34 => ?_
          refine pl_x HE34 HH20 (wt0 rfl) (x_sadd rfl rfl (by first | omega | (simp only [List.length_append, List.length_cons, List.length_nil]; omega) | (simp; omega))) rfl rfl fun a_35 HE36 => ?_
          refine pl_x HE36 HH20 (wt0 rfl) (x_assign rfl) rfl rfl fun a_37 HE38 => ?_
          refine wpList_nil ?_
          clear a_31 HE32 a_33 HE34 a_35 HE36
          refine nrm ?_
          refine wp_seq ?_
          refine dr_start (Held Nob w []) 15 #[false, false, false, false, false, false, false, false, false, false, false, false, false, false, false] hmix rfl rfl HH20 (fun _ h => h.sel [] (by decide) rfl) fun w' HH39 => ?_
          have HS40 := HH39
          refine dr_take (i := 0) (ls' := #[true, false, false, false, false, false, false, false, false, false, false, false, false, false, false]) HE38 HS40 rfl (by kernel_rfl) (by kernel_rfl) (by kernel_rfl) (fun _ _ _ h => h) rfl (wt0 rfl) (x_move rfl) rfl rfl fun a_41 HE42 => ?_
          refine dr_take (i := 1) (ls' := #[true, true, false, false, false, false, false, false, false, false, false, false, false, false, false]) HE42 HS40 rfl (by kernel_rfl) (by kernel_rfl) (by kernel_rfl) (fun _ _ _ h => h) rfl (wt0 rfl) (x_move rfl) rfl rfl fun a_43 HE44 => ?_
          have ke25 : k < a0.length := by omega
          obtain ⟨be25, fe25, ese25, Ae25, Re25, De25⟩ := el_old h0 ke25
          obtain ⟨e25, xe25⟩ : ∃ x_, x_ = a0[k] := ⟨_, rfl⟩
          rw [← xe25] at Re25
          have Qe25 := Re25
          obtain ⟨rfl, ge25_0, ge25_1, ge25_2, ge25_3⟩ := shape_Instr Re25
          have je25_0 := ge25_0; unfold I64 at je25_0
          have je25_1 := ge25_1; unfold I64 at je25_1
          have je25_2 := ge25_2; unfold I64 at je25_2
          have je25_3 := ge25_3; unfold I64 at je25_3
          have fe25 := v1 e25 (by rw [xe25]; exact List.getElem_mem _)
          obtain ⟨fae25, fbe25, fce25⟩ := fe25
          refine dr_take (i := 2) (ls' := #[true, true, true, false, false, false, false, false, false, false, false, false, false, false, false]) HE44 HS40 rfl (by kernel_rfl) (by kernel_rfl) (by kernel_rfl) (fun _ _ _ h => h) rfl (wt0 rfl) (x_indexAddr ts_38 rfl rfl Ae25 rfl ke25) rfl rfl fun a_45 HE46 => ?_
          refine dr_take (i := 3) (ls' := #[true, true, true, true, false, false, false, false, false, false, false, false, false, false, false]) HE46 HS40 rfl (by kernel_rfl) (by kernel_rfl) (by kernel_rfl) (fun _ _ _ h => h) rfl (wt0 rfl) (x_fieldAddr fa_112_1 rfl) rfl rfl fun a_47 HE48 => ?_
          refine dr_take (i := 4) (ls' := #[true, true, true, true, true, false, false, false, false, false, false, false, false, false, false]) HE48 HS40 rfl (by kernel_rfl) (by kernel_rfl) (by kernel_rfl) (fun _ _ _ h => h) rfl (wt0 rfl) (x_load1 tv_2 rfl (c_old (De25 1 _ rfl))) rfl rfl fun a_49 HE50 => ?_
          refine dr_take (i := 7) (ls' := #[true, true, true, true, true, false, false, true, false, false, false, false, false, false, false]) HE50 HS40 rfl (by kernel_rfl) (by kernel_rfl) (by kernel_rfl) (fun _ _ _ h => h) rfl (wt0 rfl) (x_move rfl) rfl rfl fun a_51 HE52 => ?_
          refine dr_take (i := 8) (ls' := #[true, true, true, true, true, false, false, true, true, false, false, false, false, false, false]) HE52 HS40 rfl (by kernel_rfl) (by kernel_rfl) (by kernel_rfl) (fun _ _ _ h => h) rfl (wt0 rfl) (x_move rfl) rfl rfl fun a_53 HE54 => ?_
          refine dr_take (i := 9) (ls' := #[true, true, true, true, true, false, false, true, true, true, false, false, false, false, false]) HE54 HS40 rfl (by kernel_rfl) (by kernel_rfl) (by kernel_rfl) (fun _ _ _ h => h) rfl (wt0 rfl) (x_indexAddr ts_38 rfl rfl Ae25 rfl ke25) rfl rfl fun a_55 HE56 => ?_
          refine dr_take (i := 10) (ls' := #[true, true, true, true, true, false, false, true, true, true, true, false, false, false, false]) HE56 HS40 rfl (by kernel_rfl) (by kernel_rfl) (by kernel_rfl) (fun _ _ _ h => h) rfl (wt0 rfl) (x_fieldAddr fa_112_2 rfl) rfl rfl fun a_57 HE58 => ?_
          refine dr_take (i := 11) (ls' := #[true, true, true, true, true, false, false, true, true, true, true, true, false, false, false]) HE58 HS40 rfl (by kernel_rfl) (by kernel_rfl) (by kernel_rfl) (fun _ _ _ h => h) rfl (wt0 rfl) (x_load1 tv_2 rfl (c_old (De25 2 _ rfl))) rfl rfl fun a_59 HE60 => ?_
          refine dr_one (i := 5) (ls' := #[true, true, true, true, true, true, false, true, true, true, true, true, false, false, false]) rfl (by kernel_rfl) rfl fun K_61 hK62 => ?_
          refine st_call HE60 (wt0 rfl) rfl rfl rfl en_103 rfl rfl (spec_l01Dec e25.2.1 _ (by omega)) fun e w' hr => ?_
          have hAr26_0 := itoa_len (n := e25.2.1) (by omega)
          obtain ⟨rfl, hbr26⟩ := hr
          have HH63 := HH39.on hbr26
          refine ⟨_, rfl, fun a_64 HE65 => hK62 _ _ (by exact HH63.sel [] (by decide) rfl) ?_⟩
          have HS66 := HH63.sel [] (by decide) rfl
          refine dr_take (i := 6) (ls' := #[true, true, true, true, true, true, true, true, true, true, true, true, false, false, false]) HE65 HS66 rfl (by kernel_rfl) (by kernel_rfl) (by kernel_rfl) (fun _ _ _ h => h) rfl (wt0 rfl) (x_sadd rfl rfl (by first | omega | (simp only [List.length_append, List.length_cons, List.length_nil]; omega) | (simp; omega))) rfl rfl fun a_67 HE68 => ?_
          refine dr_one (i := 12) (ls' := #[true, true, true, true, true, true, true, true, true, true, true, true, true, false, false]) rfl (by kernel_rfl) rfl fun K_69 hK70 => ?_
          refine st_call HE68 (wt0 rfl) rfl rfl rfl en_103 rfl rfl (spec_l01Dec e25.2.2.1 _ (by omega)) fun e w' hr => ?_
          have hAr27_0 := itoa_len (n := e25.2.2.1) (by omega)
          obtain ⟨rfl, hbr27⟩ := hr
          have HH71 := HH63.on hbr27
          refine ⟨_, rfl, fun a_72 HE73 => hK70 _ _ (by exact HH71.sel [] (by decide) rfl) ?_⟩
          have HS74 := HH71.sel [] (by decide) rfl
          refine dr_take (i := 13) (ls' := #[true, true, true, true, true, true, true, true, true, true, true, true, true, true, false]) HE73 HS74 rfl (by kernel_rfl) (by kernel_rfl) (by kernel_rfl) (fun _ _ _ h => h) rfl (wt0 rfl) (x_sadd rfl rfl (by first | omega | (simp only [List.length_append, List.length_cons, List.length_nil]; omega) | (simp; omega))) rfl rfl fun a_75 HE76 => ?_
          refine dr_take (i := 14) (ls' := #[true, true, true, true, true, true, true, true, true, true, true, true, true, true, true]) HE76 HS74 rfl (by kernel_rfl) (by kernel_rfl) (by kernel_rfl) (fun _ _ _ h => h) rfl (wt0 rfl) (x_assign rfl) rfl rfl fun a_77 HE78 => ?_
          refine dr_done (by kernel_rfl) ?_
          clear HH20 a_37 HE38 a_41 HE42 a_43 HE44 a_45 HE46 a_47 HE48 a_49 HE50 a_51 HE52 a_53 HE54 a_55 HE56 a_57 HE58 HH39 a_59 HE60 HS40 a_64 HE65 K_61 hK62 HH63 a_67 HE68 HS66 a_72 HE73 a_75 HE76 hK70 K_69
          refine nrm ?_
          refine wp_seq ?_
          refine rg ?_
          refine pl_x HE78 HH71 (wt0 rfl) (x_move rfl) rfl rfl fun a_79 HE80 => ?_
          refine pl_x HE80 HH71 (wt0 rfl) (x_move rfl) rfl rfl fun a_81 HE82 => ?_
          refine pl_x HE82 HH71 (wt0 rfl) (x_indexAddr ts_38 rfl rfl Ae25 rfl ke25) rfl rfl fun a_83 HE84 => ?_
          refine pl_x HE84 HH71 (wt0 rfl) (x_fieldAddr fa_112_0 rfl) rfl rfl fun a_85 HE86 => ?_
          refine pl_x HE86 HH71 (wt0 rfl) (x_load1 tv_2 rfl (c_old (De25 0 _ rfl))) rfl rfl fun a_87 HE88 => ?_
          refine pl_x HE88 HH71 (wt0 rfl) (x_eql rfl rfl) rfl rfl fun a_89 HE90 => ?_
          refine wpList_nil ?_
          clear a_77 HE78 a_79 HE80 a_81 HE82 a_83 HE84 a_85 HE86 a_87 HE88
          refine nrm ?_
          refine cnd_e HE90 rfl (fun hc28 => ?_) (fun hc28 => ?_)
          · refine rg ?_
            refine pl_x HE90 HH71 (wt0 rfl) (x_move rfl) rfl rfl fun a_91 HE92 => ?_
            refine pl_x HE92 HH71 (wt0 rfl) (x_move rfl) rfl rfl fun a_93 HE94 => ?_
            refine pl_x HE94 HH71 (wt0 rfl) (x_sadd rfl rfl (by first | omega | (simp only [List.length_append, List.length_cons, List.length_nil]; omega) | (simp; omega))) rfl rfl fun a_95 HE96 => ?_
            refine pl_x HE96 HH71 (wt0 rfl) (x_sadd rfl rfl (by first | omega | (simp only [List.length_append, List.length_cons, List.length_nil]; omega) | (simp; omega))) rfl rfl fun a_97 HE98 => ?_
            refine pl_x HE98 HH71 (wt0 rfl) (x_assign rfl) rfl rfl fun a_99 HE100 => ?_
            refine wpList_nil ?_
            clear a_89 HE90 a_91 HE92 a_93 HE94 a_95 HE96 a_97 HE98
            refine blk_n ?_
            refine nrm ?_
            refine rg ?_
            refine pl_x HE100 HH71 (wt0 rfl) (x_move rfl) rfl rfl fun a_101 HE102 => ?_
            refine pl_x HE102 HH71 (wt0 rfl) (x_add rfl rfl (by exact ⟨by omega, by omega⟩)) rfl rfl fun a_103 HE104 => ?_
            refine pl_x HE104 HH71 (wt0 rfl) (x_assign rfl) rfl rfl fun a_105 HE106 => ?_
            refine wpList_nil ?_
            clear a_99 HE100 a_101 HE102 a_103 HE104
            exact nrm ⟨a0.length - (k + 1), (by omega), k + 1, rfl, HE106.sub ⟨(lkS rfl (by first | (rw [join_step0 _ _ (by omega) (by omega), ← xe25]; done) | (rw [join_step1 _ _ (by omega) (by omega), ← xe25]; done) | (rw [join_step0 _ _ (by omega) (by omega), ← xe25]; rfl) | (rw [join_step1 _ _ (by omega) (by omega), ← xe25]; rfl) | (rw [join_step0 _ _ (by omega) (by omega), ← xe25]; simp [instrT, hc28]; done) | (rw [join_step1 _ _ (by omega) (by omega), ← xe25]; simp [instrT, hc28]; done))), (lkI rfl (by first | rfl | omega | (simp [hc21, p22_0, hc23, hc24, xe25, hc28]; done))), rfl, trivial⟩, (HH71.sel [] (by decide) rfl), (by first | omega | assumption | (simp; done) | simp_all)⟩
          · refine rg ?_
            refine pl_x HE90 HH71 (wt0 rfl) (x_move rfl) rfl rfl fun a_107 HE108 => ?_
            refine pl_x HE108 HH71 (wt0 rfl) (x_move rfl) rfl rfl fun a_109 HE110 => ?_
            refine pl_x HE110 HH71 (wt0 rfl) (x_sadd rfl rfl (by first | omega | (simp only [List.length_append, List.length_cons, List.length_nil]; omega) | (simp; omega))) rfl rfl fun a_111 HE112 => ?_
            refine pl_x HE112 HH71 (wt0 rfl) (x_sadd rfl rfl (by first | omega | (simp only [List.length_append, List.length_cons, List.length_nil]; omega) | (simp; omega))) rfl rfl fun a_113 HE114 => ?_
            refine pl_x HE114 HH71 (wt0 rfl) (x_move rfl) rfl rfl fun a_115 HE116 => ?_
            refine pl_x HE116 HH71 (wt0 rfl) (x_move rfl) rfl rfl fun a_117 HE118 => ?_
            refine pl_x HE118 HH71 (wt0 rfl) (x_indexAddr ts_38 rfl rfl Ae25 rfl ke25) rfl rfl fun a_119 HE120 => ?_
            refine pl_x HE120 HH71 (wt0 rfl) (x_fieldAddr fa_112_3 rfl) rfl rfl fun a_121 HE122 => ?_
            refine pl_x HE122 HH71 (wt0 rfl) (x_load1 tv_2 rfl (c_old (De25 3 _ rfl))) rfl rfl fun a_123 HE124 => ?_
            refine pl fun K_125 hK126 => ?_
            refine st_call HE124 (wt0 rfl) rfl rfl rfl en_103 rfl rfl (spec_l01Dec e25.2.2.2 _ (by omega)) fun e w' hr => ?_
            have hAr29_0 := itoa_len (n := e25.2.2.2) (by omega)
            obtain ⟨rfl, hbr29⟩ := hr
            have HH127 := HH71.on hbr29
            refine ⟨_, rfl, fun a_128 HE129 => hK126 _ _ ?_⟩
            refine pl_x HE129 HH127 (wt0 rfl) (x_sadd rfl rfl (by first | omega | (simp only [List.length_append, List.length_cons, List.length_nil]; omega) | (simp; omega))) rfl rfl fun a_130 HE131 => ?_
            refine pl_x HE131 HH127 (wt0 rfl) (x_sadd rfl rfl (by first | omega | (simp only [List.length_append, List.length_cons, List.length_nil]; omega) | (simp; omega))) rfl rfl fun a_132 HE133 => ?_
            refine pl_x HE133 HH127 (wt0 rfl) (x_assign rfl) rfl rfl fun a_134 HE135 => ?_
            refine wpList_nil ?_
            clear a_89 HE90 a_107 HE108 a_109 HE110 a_111 HE112 a_113 HE114 a_115 HE116 a_117 HE118 a_119 HE120 a_121 HE122 HH71 a_123 HE124 a_128 HE129 a_130 HE131 a_132 HE133 hK126 K_125
            refine blk_n ?_
            refine nrm ?_
            refine rg ?_
            refine pl_x HE135 HH127 (wt0 rfl) (x_move rfl) rfl rfl fun a_136 HE137 => ?_
            refine pl_x HE137 HH127 (wt0 rfl) (x_add rfl rfl (by exact ⟨by omega, by omega⟩)) rfl rfl fun a_138 HE139 => ?_
            refine pl_x HE139 HH127 (wt0 rfl) (x_assign rfl) rfl rfl fun a_140 HE141 => ?_
            refine wpList_nil ?_
            clear a_134 HE135 a_136 HE137 a_138 HE139
            exact nrm ⟨a0.length - (k + 1), (by omega), k + 1, rfl, HE141.sub ⟨(lkS rfl (by first | (rw [join_step0 _ _ (by omega) (by omega), ← xe25]; done) | (rw [join_step1 _ _ (by omega) (by omega), ← xe25]; done) | (rw [join_step0 _ _ (by omega) (by omega), ← xe25]; rfl) | (rw [join_step1 _ _ (by omega) (by omega), ← xe25]; rfl) | (rw [join_step0 _ _ (by omega) (by omega), ← xe25]; simp [instrT, hc28]; done) | (rw [join_step1 _ _ (by omega) (by omega), ← xe25]; simp [instrT, hc28]; done))), (lkI rfl (by first | rfl | omega | (simp [hc21, p22_0, hc23, hc24, xe25, hc28]; done))), rfl, trivial⟩, (HH127.sel [] (by decide) rfl), (by first | omega | assumption | (simp; done) | simp_all)⟩
        · refine wp_skip ?_
          refine nrm ?_
          refine wp_seq ?_
          refine dr_start (Held Nob w []) 15 #[false, false, false, false, false, false, false, false, false, false, false, false, false, false, false] hmix rfl rfl HH20 (fun _ h => h.sel [] (by decide) rfl) fun w' HH142 => ?_
          have HS143 := HH142
          refine dr_take (i := 0) (ls' := #[true, false, false, false, false, false, false, false, false, false, false, false, false, false, false]) HE32 HS143 rfl (by kernel_rfl) (by kernel_rfl) (by kernel_rfl) (fun _ _ _ h => h) rfl (wt0 rfl) (x_move rfl) rfl rfl fun a_144 HE145 => ?_
          refine dr_take (i := 1) (ls' := #[true, true, false, false, false, false, false, false, false, false, false, false, false, false, false]) HE145 HS143 rfl (by kernel_rfl) (by kernel_rfl) (by kernel_rfl) (fun _ _ _ h => h) rfl (wt0 rfl) (x_move rfl) rfl rfl fun a_146 HE147 => ?_
          have ke30 : k < a0.length := by omega
          obtain ⟨be30, fe30, ese30, Ae30, Re30, De30⟩ := el_old h0 ke30
          obtain ⟨e30, xe30⟩ : ∃ x_, x_ = a0[k] := ⟨_, rfl⟩
          rw [← xe30] at Re30
          have Qe30 := Re30
          obtain ⟨rfl, ge30_0, ge30_1, ge30_2, ge30_3⟩ := shape_Instr Re30
          have je30_0 := ge30_0; unfold I64 at je30_0
          have je30_1 := ge30_1; unfold I64 at je30_1
          have je30_2 := ge30_2; unfold I64 at je30_2
          have je30_3 := ge30_3; unfold I64 at je30_3
          have fe30 := v1 e30 (by rw [xe30]; exact List.getElem_mem _)
          obtain ⟨fae30, fbe30, fce30⟩ := fe30
          refine dr_take (i := 2) (ls' := #[true, true, true, false, false, false, false, false, false, false, false, false, false, false, false]) HE147 HS143 rfl (by kernel_rfl) (by kernel_rfl) (by kernel_rfl) (fun _ _ _ h => h) rfl (wt0 rfl) (x_indexAddr ts_38 rfl rfl Ae30 rfl ke30) rfl rfl fun a_148 HE149 => ?_
          refine dr_take (i := 3) (ls' := #[true, true, true, true, false, false, false, false, false, false, false, false, false, false, false]) HE149 HS143 rfl (by kernel_rfl) (by kernel_rfl) (by kernel_rfl) (fun _ _ _ h => h) rfl (wt0 rfl) (x_fieldAddr fa_112_1 rfl) rfl rfl fun a_150 HE151 => ?_
          refine dr_take (i := 4) (ls' := #[true, true, true, true, true, false, false, false, false, false, false, false, false, false, false]) HE151 HS143 rfl (by kernel_rfl) (by kernel_rfl) (by kernel_rfl) (fun _ _ _ h => h) rfl (wt0 rfl) (x_load1 tv_2 rfl (c_old (De30 1 _ rfl))) rfl rfl fun a_152 HE153 => ?_
          refine dr_take (i := 7) (ls' := #[true, true, true, true, true, false, false, true, false, false, false, false, false, false, false]) HE153 HS143 rfl (by kernel_rfl) (by kernel_rfl) (by kernel_rfl) (fun _ _ _ h => h) rfl (wt0 rfl) (x_move rfl) rfl rfl fun a_154 HE155 => ?_
          refine dr_take (i := 8) (ls' := #[true, true, true, true, true, false, false, true, true, false, false, false, false, false, false]) HE155 HS143 rfl (by kernel_rfl) (by kernel_rfl) (by kernel_rfl) (fun _ _ _ h => h) rfl (wt0 rfl) (x_move rfl) rfl rfl fun a_156 HE157 => ?_
          refine dr_take (i := 9) (ls' := #[true, true, true, true, true, false, false, true, true, true, false, false, false, false, false]) HE157 HS143 rfl (by kernel_rfl) (by kernel_rfl) (by kernel_rfl) (fun _ _ _ h => h) rfl (wt0 rfl) (x_indexAddr ts_38 rfl rfl Ae30 rfl ke30) rfl rfl fun a_158 HE159 => ?_
          refine dr_take (i := 10) (ls' := #[true, true, true, true, true, false, false, true, true, true, true, false, false, false, false]) HE159 HS143 rfl (by kernel_rfl) (by kernel_rfl) (by kernel_rfl) (fun _ _ _ h => h) rfl (wt0 rfl) (x_fieldAddr fa_112_2 rfl) rfl rfl fun a_160 HE161 => ?_
          refine dr_take (i := 11) (ls' := #[true, true, true, true, true, false, false, true, true, true, true, true, false, false, false]) HE161 HS143 rfl (by kernel_rfl) (by kernel_rfl) (by kernel_rfl) (fun _ _ _ h => h) rfl (wt0 rfl) (x_load1 tv_2 rfl (c_old (De30 2 _ rfl))) rfl rfl fun a_162 HE163 => ?_
          refine dr_one (i := 5) (ls' := #[true, true, true, true, true, true, false, true, true, true, true, true, false, false, false]) rfl (by kernel_rfl) rfl fun K_164 hK165 => ?_
          refine st_call HE163 (wt0 rfl) rfl rfl rfl en_103 rfl rfl (spec_l01Dec e30.2.1 _ (by omega)) fun e w' hr => ?_
          have hAr31_0 := itoa_len (n := e30.2.1) (by omega)
          obtain ⟨rfl, hbr31⟩ := hr
          have HH166 := HH142.on hbr31
          refine ⟨_, rfl, fun a_167 HE168 => hK165 _ _ (by exact HH166.sel [] (by decide) rfl) ?_⟩
          have HS169 := HH166.sel [] (by decide) rfl
          refine dr_take (i := 6) (ls' := #[true, true, true, true, true, true, true, true, true, true, true, true, false, false, false]) HE168 HS169 rfl (by kernel_rfl) (by kernel_rfl) (by kernel_rfl) (fun _ _ _ h => h) rfl (wt0 rfl) (x_sadd rfl rfl (by first | omega | (simp only [List.length_append, List.length_cons, List.length_nil]; omega) | (simp; omega))) rfl rfl fun a_170 HE171 => ?_
          refine dr_one (i := 12) (ls' := #[true, true, true, true, true, true, true, true, true, true, true, true, true, false, false]) rfl (by kernel_rfl) rfl fun K_172 hK173 => ?_
          refine st_call HE171 (wt0 rfl) rfl rfl rfl en_103 rfl rfl (spec_l01Dec e30.2.2.1 _ (by omega)) fun e w' hr => ?_
          have hAr32_0 := itoa_len (n := e30.2.2.1) (by omega)
          obtain ⟨rfl, hbr32⟩ := hr
          have HH174 := HH166.on hbr32
          refine ⟨_, rfl, fun a_175 HE176 => hK173 _ _ (by exact HH174.sel [] (by decide) rfl) ?_⟩
          have HS177 := HH174.sel [] (by decide) rfl
          refine dr_take (i := 13) (ls' := #[true, true, true, true, true, true, true, true, true, true, true, true, true, true, false]) HE176 HS177 rfl (by kernel_rfl) (by kernel_rfl) (by kernel_rfl) (fun _ _ _ h => h) rfl (wt0 rfl) (x_sadd rfl rfl (by first | omega | (simp only [List.length_append, List.length_cons, List.length_nil]; omega) | (simp; omega))) rfl rfl fun a_178 HE179 => ?_
          refine dr_take (i := 14) (ls' := #[true, true, true, true, true, true, true, true, true, true, true, true, true, true, true]) HE179 HS177 rfl (by kernel_rfl) (by kernel_rfl) (by kernel_rfl) (fun _ _ _ h => h) rfl (wt0 rfl) (x_assign rfl) rfl rfl fun a_180 HE181 => ?_
          refine dr_done (by kernel_rfl) ?_
          clear HH20 a_31 HE32 a_144 HE145 a_146 HE147 a_148 HE149 a_150 HE151 a_152 HE153 a_154 HE155 a_156 HE157 a_158 HE159 a_160 HE161 HH142 a_162 HE163 HS143 a_167 HE168 K_164 hK165 HH166 a_170 HE171 HS169 a_175 HE176 a_178 HE179 hK173 K_172
          refine nrm ?_
          refine wp_seq ?_
          refine rg ?_
          refine pl_x HE181 HH174 (wt0 rfl) (x_move rfl) rfl rfl fun a_182 HE183 => ?_
          refine pl_x HE183 HH174 (wt0 rfl) (x_move rfl) rfl rfl fun a_184 HE185 => ?_
          refine pl_x HE185 HH174 (wt0 rfl) (x_indexAddr ts_38 rfl rfl Ae30 rfl ke30) rfl rfl fun a_186 HE187 => ?_
          refine pl_x HE187 HH174 (wt0 rfl) (x_fieldAddr fa_112_0 rfl) rfl rfl fun a_188 HE189 => ?_
          refine pl_x HE189 HH174 (wt0 rfl) (x_load1 tv_2 rfl (c_old (De30 0 _ rfl))) rfl rfl fun a_190 HE191 => ?_
          refine pl_x HE191 HH174 (wt0 rfl) (x_eql rfl rfl) rfl rfl fun a_192 HE193 => ?_
          refine wpList_nil ?_
          clear a_180 HE181 a_182 HE183 a_184 HE185 a_186 HE187 a_188 HE189 a_190 HE191
          refine nrm ?_
          refine cnd_e HE193 rfl (fun hc33 => ?_) (fun hc33 => ?_)
          · refine rg ?_
            refine pl_x HE193 HH174 (wt0 rfl) (x_move rfl) rfl rfl fun a_194 HE195 => ?_
            refine pl_x HE195 HH174 (wt0 rfl) (x_move rfl) rfl rfl fun a_196 HE197 => ?_
            refine pl_x HE197 HH174 (wt0 rfl) (x_sadd rfl rfl (by first | omega | (simp only [List.length_append, List.length_cons, List.length_nil]; omega) | (simp; omega))) rfl rfl fun a_198 HE199 => ?_
            refine pl_x HE199 HH174 (wt0 rfl) (x_sadd rfl rfl (by first | omega | (simp only [List.length_append, List.length_cons, List.length_nil]; omega) | (simp; omega))) rfl rfl fun a_200 HE201 => ?_
            refine pl_x HE201 HH174 (wt0 rfl) (x_assign rfl) rfl rfl fun a_202 HE203 => ?_
            refine wpList_nil ?_
            clear a_192 HE193 a_194 HE195 a_196 HE197 a_198 HE199 a_200 HE201
            refine blk_n ?_
            refine nrm ?_
            refine rg ?_
            refine pl_x HE203 HH174 (wt0 rfl) (x_move rfl) rfl rfl fun a_204 HE205 => ?_
            refine pl_x HE205 HH174 (wt0 rfl) (x_add rfl rfl (by exact ⟨by omega, by omega⟩)) rfl rfl fun a_206 HE207 => ?_
            refine pl_x HE207 HH174 (wt0 rfl) (x_assign rfl) rfl rfl fun a_208 HE209 => ?_
            refine wpList_nil ?_
            clear a_202 HE203 a_204 HE205 a_206 HE207
            exact nrm ⟨a0.length - (k + 1), (by omega), k + 1, rfl, HE209.sub ⟨(lkS rfl (by first | (rw [join_step0 _ _ (by omega) (by omega), ← xe30]; done) | (rw [join_step1 _ _ (by omega) (by omega), ← xe30]; done) | (rw [join_step0 _ _ (by omega) (by omega), ← xe30]; rfl) | (rw [join_step1 _ _ (by omega) (by omega), ← xe30]; rfl) | (rw [join_step0 _ _ (by omega) (by omega), ← xe30]; simp [instrT, hc33]; done) | (rw [join_step1 _ _ (by omega) (by omega), ← xe30]; simp [instrT, hc33]; done))), (lkI rfl (by first | rfl | omega | (simp [hc21, p22_0, hc23, hc24, xe30, hc33]; done))), rfl, trivial⟩, (HH174.sel [] (by decide) rfl), (by first | omega | assumption | (simp; done) | simp_all)⟩
          · refine rg ?_
            refine pl_x HE193 HH174 (wt0 rfl) (x_move rfl) rfl rfl fun a_210 HE211 => ?_
            refine pl_x HE211 HH174 (wt0 rfl) (x_move rfl) rfl rfl fun a_212 HE213 => ?_
            refine pl_x HE213 HH174 (wt0 rfl) (x_sadd rfl rfl (by first | omega | (simp only [List.length_append, List.length_cons, List.length_nil]; omega) | (simp; omega))) rfl rfl fun a_214 HE215 => ?_
            refine pl_x HE215 HH174 (wt0 rfl) (x_sadd rfl rfl (by first | omega | (simp only [List.length_append, List.length_cons, List.length_nil]; omega) | (simp; omega))) rfl rfl fun a_216 HE217 => ?_
            refine pl_x HE217 HH174 (wt0 rfl) (x_move rfl) rfl rfl fun a_218 HE219 => ?_
            refine pl_x HE219 HH174 (wt0 rfl) (x_move rfl) rfl rfl fun a_220 HE221 => ?_
            refine pl_x HE221 HH174 (wt0 rfl) (x_indexAddr ts_38 rfl rfl Ae30 rfl ke30) rfl rfl fun a_222 HE223 => ?_
            refine pl_x HE223 HH174 (wt0 rfl) (x_fieldAddr fa_112_3 rfl) rfl rfl fun a_224 HE225 => ?_
            refine pl_x HE225 HH174 (wt0 rfl) (x_load1 tv_2 rfl (c_old (De30 3 _ rfl))) rfl rfl fun a_226 HE227 => ?_
            refine pl fun K_228 hK229 => ?_
            refine st_call HE227 (wt0 rfl) rfl rfl rfl en_103 rfl rfl (spec_l01Dec e30.2.2.2 _ (by omega)) fun e w' hr => ?_
            have hAr34_0 := itoa_len (n := e30.2.2.2) (by omega)
            obtain ⟨rfl, hbr34⟩ := hr
            have HH230 := HH174.on hbr34
            refine ⟨_, rfl, fun a_231 HE232 => hK229 _ _ ?_⟩
            refine pl_x HE232 HH230 (wt0 rfl) (x_sadd rfl rfl (by first | omega | (simp only [List.length_append, List.length_cons, List.length_nil]; omega) | (simp; omega))) rfl rfl fun a_233 HE234 => ?_
            refine pl_x HE234 HH230 (wt0 rfl) (x_sadd rfl rfl (by first | omega | (simp only [List.length_append, List.length_cons, List.length_nil]; omega) | (simp; omega))) rfl rfl fun a_235 HE236 => ?_
            refine pl_x HE236 HH230 (wt0 rfl) (x_assign rfl) rfl rfl fun a_237 HE238 => ?_
            refine wpList_nil ?_
            clear a_192 HE193 a_210 HE211 a_212 HE213 a_214 HE215 a_216 HE217 a_218 HE219 a_220 HE221 a_222 HE223 a_224 HE225 HH174 a_226 HE227 a_231 HE232 a_233 HE234 a_235 HE236 hK229 K_228
            refine blk_n ?_
            refine nrm ?_
            refine rg ?_
            refine pl_x HE238 HH230 (wt0 rfl) (x_move rfl) rfl rfl fun a_239 HE240 => ?_
            refine pl_x HE240 HH230 (wt0 rfl) (x_add rfl rfl (by exact ⟨by omega, by omega⟩)) rfl rfl fun a_241 HE242 => ?_
            refine pl_x HE242 HH230 (wt0 rfl) (x_assign rfl) rfl rfl fun a_243 HE244 => ?_
            refine wpList_nil ?_
            clear a_237 HE238 a_239 HE240 a_241 HE242
            exact nrm ⟨a0.length - (k + 1), (by omega), k + 1, rfl, HE244.sub ⟨(lkS rfl (by first | (rw [join_step0 _ _ (by omega) (by omega), ← xe30]; done) | (rw [join_step1 _ _ (by omega) (by omega), ← xe30]; done) | (rw [join_step0 _ _ (by omega) (by omega), ← xe30]; rfl) | (rw [join_step1 _ _ (by omega) (by omega), ← xe30]; rfl) | (rw [join_step0 _ _ (by omega) (by omega), ← xe30]; simp [instrT, hc33]; done) | (rw [join_step1 _ _ (by omega) (by omega), ← xe30]; simp [instrT, hc33]; done))), (lkI rfl (by first | rfl | omega | (simp [hc21, p22_0, hc23, hc24, xe30, hc33]; done))), rfl, trivial⟩, (HH230.sel [] (by decide) rfl), (by first | omega | assumption | (simp; done) | simp_all)⟩
      · refine wp_exit ?_
        refine (thn_exit (thn_exit (blk_hit ?_)))
        refine nrm ?_
        refine wp_seq ?_
        refine rg ?_
        refine pl_x HE28 HH20 (wt0 rfl) (x_move rfl) rfl rfl fun a_245 HE246 => ?_
        refine pl_x HE246 HH20 (wt0 rfl) (x_assign rfl) rfl rfl fun a_247 HE248 => ?_
        refine wpList_nil ?_
        clear a_27 HE28 a_245 HE246
        refine nrm ?_
        refine wp_ret ?_
        refine ret1 HE248 rfl (rv_tmp rfl) ?_
        have hF : (progT a0) = (Go.Lib.join ((a0.take k).map instrT) [59]) := by
          unfold progT; first | (rw [if_pos (eq_nil (by omega))]; done) | (rw [if_neg (ne_nil (by omega)), List.take_of_length_le (by omega)])
        exact ⟨by first | (rw [hF] <;> rfl) | rfl | (rw [hF]; simp only [Ending.returned.injEq, Value.slice.injEq, true_and, and_true]; first | omega | (simp; done)) | (rw [hF]; simp; omega), HH20.below⟩

set_option maxRecDepth 100000 in
set_option maxHeartbeats 4000000 in
theorem spec_ProgramText (A0 : Option Addr) (c0 : Nat) (a0 : (List tInstr)) (w : World) (h0 : Sl eInstr w (Old w) A0 c0 a0) :
    Calls Tryd.prog 20 #[.slice A0 a0.length c0] w fun e w' => e = .returned (.string (bs (progText a0))) ∧ Below w.heap.size w w' := by
  have l0 := h0.len
  have HH1 := Held.start Nob w
  refine enter (n := 8) Tryd.func20 rfl rfl rfl fun a_2 HE3 => ?_
  refine wp_seq ?_
  refine rg ?_
  refine pl_x HE3 HH1 (wt0 rfl) (x_assign rfl) rfl rfl fun a_4 HE5 => ?_
  refine wpList_nil ?_
  clear a_2 HE3
  refine nrm ?_
  refine wp_seq ?_
  refine wp_seq ?_
  refine rg ?_
  refine pl_x HE5 HH1 (wt0 rfl) (x_move rfl) rfl rfl fun a_6 HE7 => ?_
  refine pl fun K_8 hK9 => ?_
  refine st_call HE7 (wt0 rfl) rfl rfl rfl en_63 rfl rfl (spec_l07Is _ _ a0 _ (HH1.old h0)) fun e w' hr => ?_
  obtain ⟨rfl, hbr21⟩ := hr
  have HH10 := HH1.on hbr21
  refine ⟨_, rfl, fun a_11 HE12 => hK9 _ _ ?_⟩
  refine pl_x HE12 HH10 (wt0 rfl) (x_not rfl) rfl rfl fun a_13 HE14 => ?_
  refine wpList_nil ?_
  clear a_4 HE5 HH1 a_6 HE7 a_11 HE12 hK9 K_8
  refine nrm ?_
  refine cnd_nb HE14 rfl (fun hc22 => ?_) (fun hc22 => ?_)
  · refine wp_seq ?_
    refine rg ?_
    refine pl_x HE14 HH10 (wt0 rfl) (x_assign rfl) rfl rfl fun a_15 HE16 => ?_
    refine wpList_nil ?_
    clear a_13 HE14
    refine nrm ?_
    refine wp_ret ?_
    refine (thn_ret ?_)
    refine ret1 HE16 rfl (rv_tmp rfl) ?_
    have hF : (progText a0) = [] := by
      unfold progText; simp [hc22]
    exact ⟨by first | (rw [hF] <;> rfl) | rfl | (rw [hF]; simp only [Ending.returned.injEq, Value.slice.injEq, true_and, and_true]; first | omega | (simp; done)) | (rw [hF]; simp; omega), HH10.below⟩
  · obtain ⟨v0, v1⟩ := validProg_ok hc22
    refine wp_skip ?_
    refine nrm ?_
    refine wp_seq ?_
    refine rg ?_
    refine pl_x HE14 HH10 (wt0 rfl) (x_move rfl) rfl rfl fun a_17 HE18 => ?_
    refine pl fun K_19 hK20 => ?_
    refine st_call HE18 (wt0 rfl) rfl rfl rfl en_64 rfl rfl (spec_l07Text _ _ a0 _ (HH10.old h0) (by omega) (by assumption)) fun e w' hr => ?_
    obtain ⟨rfl, hbr23⟩ := hr
    have HH21 := HH10.on hbr23
    refine ⟨_, rfl, fun a_22 HE23 => hK20 _ _ ?_⟩
    refine pl_x HE23 HH21 (wt0 rfl) (x_assign rfl) rfl rfl fun a_24 HE25 => ?_
    refine wpList_nil ?_
    clear a_13 HE14 HH10 a_17 HE18 a_22 HE23 hK20 K_19
    refine nrm ?_
    refine wp_ret ?_
    refine ret1 HE25 rfl (rv_tmp rfl) ?_
    have hF : (progText a0) = (progT a0) := by
      unfold progText; simp [hc22]
    exact ⟨by first | (rw [hF] <;> rfl) | rfl | (rw [hF]; simp only [Ending.returned.injEq, Value.slice.injEq, true_and, and_true]; first | omega | (simp; done)) | (rw [hF]; simp; omega), HH21.below⟩

set_option maxRecDepth 100000 in
set_option maxHeartbeats 4000000 in
theorem law_ProgramText (A0 : Option Addr) (c0 : Nat) (a0 : (List tInstr)) (w : World) (h0 : Sl eInstr w (Old w) A0 c0 a0) (hG : Glob w) :
    Calls Tryd.prog 5 #[.slice A0 a0.length c0] w fun e w' => e = .returned (.bool true) ∧ Below w.heap.size w w' := by
  have l0 := h0.len
  have HH1 := Held.start Nob w
  refine enter (n := 27) Tryd.func5 rfl rfl rfl fun a_2 HE3 => ?_
  refine wp_seq ?_
  refine rg ?_
  refine pl_x HE3 HH1 (wt0 rfl) (x_assign rfl) rfl rfl fun a_4 HE5 => ?_
  refine wpList_nil ?_
  clear a_2 HE3
  refine nrm ?_
  refine wp_seq ?_
  refine rg ?_
  refine pl_x HE5 HH1 (wt0 rfl) (x_assign rfl) rfl rfl fun a_6 HE7 => ?_
  refine wpList_nil ?_
  clear a_4 HE5
  refine nrm ?_
  refine wp_seq ?_
  refine rg ?_
  refine pl_x HE7 HH1 (wt0 rfl) (x_move rfl) rfl rfl fun a_8 HE9 => ?_
  refine pl_x HE9 HH1 (wt0 rfl) (x_move rfl) rfl rfl fun a_10 HE11 => ?_
  refine pl fun K_12 hK13 => ?_
  refine st_call HE11 (wt0 rfl) rfl rfl rfl en_19 rfl rfl (sz_InstrS _ _ a0 1048576 _ (HH1.old h0) (by omega) (by omega)) fun e w' hr => ?_
  obtain ⟨rfl, hbr21⟩ := hr
  have HH14 := HH1.on hbr21
  clear hbr21
  refine ⟨_, rfl, fun a_15 HE16 => hK13 _ _ ?_⟩
  refine pl_x HE16 HH14 (wt0 rfl) (x_assign rfl) rfl rfl fun a_17 HE18 => ?_
  refine wpList_nil ?_
  clear a_6 HE7 a_8 HE9 HH1 a_10 HE11 a_15 HE16 hK13 K_12
  refine nrm ?_
  refine wp_seq ?_
  refine wp_seq ?_
  refine rg ?_
  refine pl_x HE18 HH14 (wt0 rfl) (x_move rfl) rfl rfl fun a_19 HE20 => ?_
  refine pl_x HE20 HH14 (wt0 rfl) (x_lss rfl rfl) rfl rfl fun a_21 HE22 => ?_
  refine wpList_nil ?_
  clear a_17 HE18 a_19 HE20
  refine nrm ?_
  refine cnd_d HE22 rfl (fun hc22 => ?_) (fun hc22 => ?_)
  · refine wp_seq ?_
    refine rg ?_
    refine pl_x HE22 HH14 (wt0 rfl) (x_assign rfl) rfl rfl fun a_23 HE24 => ?_
    refine wpList_nil ?_
    clear a_21 HE22
    refine nrm ?_
    refine wp_ret ?_
    refine (thn_ret ?_)
    refine ret1 HE24 rfl (rv_tmp rfl) ?_
    have hF : true = true := by
      first | rfl | (exfalso; omega)
    exact ⟨by first | (rw [hF] <;> rfl) | rfl | (rw [hF]; simp only [Ending.returned.injEq, Value.slice.injEq, true_and, and_true]; first | omega | (simp; done)) | (rw [hF]; simp; omega), HH14.below⟩
  · have zr21 := left_ok hc22
    refine wp_skip ?_
    refine nrm ?_
    refine wp_seq ?_
    refine rg ?_
    refine pl_x HE22 HH14 (wt0 rfl) (x_move rfl) rfl rfl fun a_25 HE26 => ?_
    refine pl fun K_27 hK28 => ?_
    refine st_call HE26 (wt0 rfl) rfl rfl rfl en_21 rfl rfl (to_InstrS _ _ a0 _ (HH14.old h0) (by omega)) fun e w' hr => ?_
    obtain ⟨Ar23, cr23, rfl, hor23, hbr23⟩ := hr
    obtain ⟨Sr23, HH29⟩ := HH14.newS hbr23 hor23
    clear hbr23 hor23
    refine ⟨_, rfl, fun a_30 HE31 => hK28 _ _ ?_⟩
    refine pl fun K_32 hK33 => ?_
    refine st_call HE31 (wt0 rfl) rfl rfl rfl en_20 rfl rfl (spec_ProgramText _ _ a0 _ (HH29.sl (i := 0) rfl)) fun e w' hr => ?_
    obtain ⟨rfl, hbr24⟩ := hr
    have HH34 := HH29.on hbr24
    refine ⟨_, rfl, fun a_35 HE36 => hK33 _ _ ?_⟩
    refine pl_x HE36 HH34 (wt0 rfl) (x_assign rfl) rfl rfl fun a_37 HE38 => ?_
    refine wpList_nil ?_
    clear a_21 HE22 HH14 a_25 HE26 K_27 hK28 HH29 a_30 HE31 a_35 HE36 hK33 K_32
    refine nrm ?_
    refine wp_seq ?_
    refine rg ?_
    refine pl_x HE38 HH34 (wt0 rfl) (x_move rfl) rfl rfl fun a_39 HE40 => ?_
    refine pl fun K_41 hK42 => ?_
    refine st_call HE40 (wt0 rfl) rfl rfl rfl en_21 rfl rfl (to_InstrS _ _ a0 _ (HH34.old h0) (by omega)) fun e w' hr => ?_
    obtain ⟨Ar25, cr25, rfl, hor25, hbr25⟩ := hr
    obtain ⟨Sr25, HH43⟩ := HH34.newS hbr25 hor25
    clear hbr25 hor25
    refine ⟨_, rfl, fun a_44 HE45 => hK42 _ _ ?_⟩
    refine pl_x HE45 HH43 (wt0 rfl) (x_assign rfl) rfl rfl fun a_46 HE47 => ?_
    refine wpList_nil ?_
    clear a_37 HE38 HH34 a_39 HE40 a_44 HE45 hK42 K_41
    refine nrm ?_
    refine wp_seq ?_
    refine rg ?_
    refine pl_x HE47 HH43 (wt0 rfl) (x_move rfl) rfl rfl fun a_48 HE49 => ?_
    refine pl fun K_50 hK51 => ?_
    refine st_call HE49 (wt0 rfl) rfl rfl rfl en_22 rfl rfl (impl_ProgramText _ _ a0 _ (HH43.sl (i := 0) rfl) (HH43.glob hG)) fun e w' hr => ?_
    obtain ⟨rfl, hbr26⟩ := hr
    have HH52 := HH43.on hbr26
    refine ⟨_, rfl, fun a_53 HE54 => hK51 _ _ ?_⟩
    refine pl_x HE54 HH52 (wt0 rfl) (x_assign rfl) rfl rfl fun a_55 HE56 => ?_
    refine wpList_nil ?_
    clear a_46 HE47 HH43 a_48 HE49 a_53 HE54 hK51 K_50
    refine nrm ?_
    refine wp_seq ?_
    refine wp_seq ?_
    refine rg ?_
    refine pl_x HE56 HH52 (wt0 rfl) (x_move rfl) rfl rfl fun a_57 HE58 => ?_
    refine pl_x HE58 HH52 (wt0 rfl) (x_move rfl) rfl rfl fun a_59 HE60 => ?_
    refine pl_x HE60 HH52 (wt0 rfl) (x_sneqB rfl rfl) rfl rfl fun a_61 HE62 => ?_
    refine wpList_nil ?_
    clear a_55 HE56 a_57 HE58 a_59 HE60
    refine nrm ?_
    refine cndF HE62 rfl (not_f (decide_eq_true rfl)) ?_
    refine wp_skip ?_
    refine nrm ?_
    refine wp_seq ?_
    refine wp_seq ?_
    refine rg ?_
    refine pl_x HE62 HH52 (wt0 rfl) (x_move rfl) rfl rfl fun a_63 HE64 => ?_
    refine pl_x HE64 HH52 (wt0 rfl) (x_move rfl) rfl rfl fun a_65 HE66 => ?_
    refine pl fun K_67 hK68 => ?_
    refine st_call HE66 (wt0 rfl) rfl rfl rfl en_21 rfl rfl (to_InstrS _ _ a0 _ (HH52.old h0) (by omega)) fun e w' hr => ?_
    obtain ⟨Ar27, cr27, rfl, hor27, hbr27⟩ := hr
    obtain ⟨Sr27, HH69⟩ := HH52.newS hbr27 hor27
    clear hbr27 hor27
    refine ⟨_, rfl, fun a_70 HE71 => hK68 _ _ ?_⟩
    refine pl fun K_72 hK73 => ?_
    refine st_call HE71 (wt0 rfl) rfl rfl rfl en_23 rfl rfl (eq_SInstr_c _ _ _ _ a0 a0 _ (HH69.sl (i := 1) rfl) (HH69.sl (i := 0) rfl)) fun e w' hr => ?_
    obtain ⟨rfl, hbr28⟩ := hr
    have HH74 := HH69.on hbr28
    clear hbr28
    refine ⟨_, rfl, fun a_75 HE76 => hK73 _ _ ?_⟩
    refine pl_x HE76 HH74 (wt0 rfl) (x_not rfl) rfl rfl fun a_77 HE78 => ?_
    refine wpList_nil ?_
    clear a_61 HE62 a_63 HE64 HH52 a_65 HE66 K_67 hK68 HH69 a_70 HE71 a_75 HE76 hK73 K_72
    refine nrm ?_
    refine cndF HE78 rfl (not_f (eq_SInstr_refl _)) ?_
    refine wp_skip ?_
    refine nrm ?_
    refine wp_seq ?_
    refine rg ?_
    refine pl_x HE78 HH74 (wt0 rfl) (x_assign rfl) rfl rfl fun a_79 HE80 => ?_
    refine wpList_nil ?_
    clear a_77 HE78
    refine nrm ?_
    refine wp_ret ?_
    refine ret1 HE80 rfl (rv_tmp rfl) ?_
    have hF : true = true := by
      first | rfl | (exfalso; omega)
    exact ⟨by first | (rw [hF] <;> rfl) | rfl | (rw [hF]; simp only [Ending.returned.injEq, Value.slice.injEq, true_and, and_true]; first | omega | (simp; done)) | (rw [hF]; simp; omega), HH74.below⟩

end Go.Proofs.YtjnnkmflpbildaaDoor
