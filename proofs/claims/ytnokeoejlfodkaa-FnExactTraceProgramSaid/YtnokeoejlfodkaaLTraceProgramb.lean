/- What the proof of FnExactTraceProgram needs: contracts of the functions that it reaches, each once. -/
import Derived.Test.YtnokeoejlfodkaaProg
import Derived.Test.YtnokeoejlfodkaaQMem
import Derived.Test.YtnokeoejlfodkaaQOpen
import Derived.Test.YtnokeoejlfodkaaLTracePrograma
import Derived.WalkKit
import Derived.WalkSpells
import Derived.Below
import Derived.LoopTactic
import Derived.Outline
import Derived.Deep.QuietTactic
import Derived.BigQuiet
import Derived.Deep.LoopGhost
import Derived.Handy
import Derived.Lib.Hide
import Derived.Shelf.Abstract
import Derived.StillTailTactics
import Derived.OwnWalk
import Derived.Maps.AppendAt
import Derived.RegionTactic
import Derived.Deep.RegionHeld3
import Derived.IntWalk
import Derived.Deep.Upon
import Derived.Laws.OwnMore
import Derived.Maps.AppendAt
import Derived.Lib.SliceRun
import Derived.Lib.AppendZeros
namespace Go.Proofs.Ytnokeoejlfodkaa
open Go.RowKit

set_option maxRecDepth 100000 in
set_option maxHeartbeats 1000000 in
theorem impl_storeOf (A : Option Addr) (c : Nat) (p : List tInstr) (es : List Value) (x : tStore) (w : World) (hp : Sl eInstr w (Old w) A c p) (h : eStore.R w (Old w) es x) :
    Calls Try.prog 190 #[.slice A p.length c, .agg es.toArray] w fun e w' => e = .returned (.bool (storeOf p x)) ∧ Below w.heap.size w w' := by
  have hlen := hp.len
  clear hp
  obtain ⟨A1, c1, rfl, _, g1⟩ := shape_Store h
  clear h
  obtain ⟨at_, xs⟩ := x
  simp only at g1
  show Calls Try.prog 190 #[.slice A p.length c, .agg #[.int .i64 at_, .slice A1 xs.length c1]] w _
  have HB : Hid (Below w.heap.size w (w.alloc (.cells #[.int .i64 at_, .slice A1 xs.length c1] 55))) := by show Below _ _ _; go_grown
  have HE : Hid (storeOf p (at_, xs) = (withinB at_ 0 p.length && ((xs.length : Int) == 24) && allW xs 0 1000000)) := rfl
  have HC := Lib.hid (fun n => impl_allWithin _ _ xs 0 1000000 _ (g1.on (below_drewN HB.out n)))
  have hl := g1.len
  clear g1
  have HW := Lib.hid (fun W => impl_within at_ 0 p.length W)
  cases q0 : withinB at_ 0 p.length
  · rw [q0] at HW
    go_enter Try.func190, Try.ntmps190
    go_wp2_with fail
    go_quiet (first | (go_at_call 91; exact Dr.quiet0 (impl_size_Instr _ _ _ _)) | (go_at_call 112; exact Dr.quiet0 (HW.out _)))
    go_wp2
    go_ret
    exact ⟨ret_bool (by rw [HE.out, q0]; rfl), below_drewN HB.out _⟩
  rw [q0] at HW
  cases q1 : ((xs.length : Int) == 24)
  · go_enter Try.func190, Try.ntmps190
    go_wp2_with fail
    go_quiet (first | (go_at_call 91; exact Dr.quiet0 (impl_size_Instr _ _ _ _)) | (go_at_call 112; exact Dr.quiet0 (HW.out _)))
    go_wp2
    go_ret
    exact ⟨ret_bool (by rw [HE.out, q0, q1]; rfl), below_drewN HB.out _⟩
  · go_enter Try.func190, Try.ntmps190
    go_wp2_with fail
    go_quiet (first | (go_at_call 91; exact Dr.quiet0 (impl_size_Instr _ _ _ _)) | (go_at_call 112; exact Dr.quiet0 (HW.out _)) | (go_at_call 150; exact Dr.quiet0 (HC.out _)))
    go_wp2
    go_ret
    exact ⟨ret_bool (by rw [HE.out, q0, q1]; rfl), below_drewN HB.out _⟩

set_option maxHeartbeats 1000000 in
theorem impl_ValidStore (A : Option Addr) (c : Nat) (p : List tInstr) (es : List Value) (x : tStore) (w : World) (hp : Sl eInstr w (Old w) A c p) (h : eStore.R w (Old w) es x) :
    Calls Try.prog 111 #[.slice A p.length c, .agg es.toArray] w fun e w' => e = .returned (.bool (validStore p x)) ∧ Below w.heap.size w w' := by
  have hx := h
  have HR := Lib.hid h; clear h
  obtain ⟨A1, c1, rfl, _, g1⟩ := shape_Store hx
  clear hx g1
  have HB : Hid (Below w.heap.size w (w.alloc (.cells #[.int .i64 x.1, .slice A1 x.2.length c1] 55))) := by show Below _ _ _; go_grown
  have HE : Hid (validStore p x = (validProg p && storeOf p x)) := rfl
  have HP := Lib.hid (hp.on HB.out); clear hp
  have HV := Lib.hid (impl_ValidProgram _ _ p _ HP.out)
  cases q0 : validProg p
  · rw [q0] at HV
    go_enter Try.func111, Try.ntmps111
    go_wp2_with (go_at_call 85; refine HV.out.mono ?_; rintro e w1 ⟨rfl, hb⟩)
    go_ret
    exact ⟨ret_bool (by rw [HE.out, q0]; rfl), below_trans HB.out hb⟩
  · rw [q0] at HV
    go_enter Try.func111, Try.ntmps111
    go_wp2_with fail
    refine HV.out.mono ?_
    rintro e w1 ⟨rfl, hb⟩
    have hB := (Blk.new w 55 #[.int .i64 x.1, .slice A1 x.2.length c1]).on hb
    have e0 := hB.cell 0
    have e1 := hB.cell 1
    have HB1 := Lib.hid hb; clear hb hB
    go_wp2_with fail
    refine (impl_storeOf _ _ p _ x _ (HP.out.on HB1.out) (eStore.on (eStore.on HR.out HB.out) HB1.out)).mono ?_
    rintro e w2 ⟨rfl, hb⟩
    go_wp2
    go_ret
    exact ⟨ret_bool (by rw [HE.out, q0]; rfl), below_trans (below_trans HB.out HB1.out) hb⟩

theorem left_ok {l : Int} {n : Nat} (h : ¬ left l n < 0) : left l n = l - (n : Int) ∧ (n : Int) ≤ l := by
  unfold left at *; split at h <;> simp_all <;> omega

def stepS (p : List tInstr) (x : tStore) : Bool × tStore :=
  let i := p[x.1.toNat]?.getD (0, 0, 0, 0)
  let r := i.2.1.toNat
  let v := x.2[r]?.getD 0
  if i.1 = 0 then (decide (v + 1 ≤ 1000000), (i.2.2.1, x.2.set r (v + 1)))
  else if 0 < v then (decide (v - 1 ≤ 1000000), (i.2.2.1, x.2.set r (v - 1)))
  else (decide (v ≤ 1000000), (i.2.2.2, x.2))

theorem storeOf_facts {p : List tInstr} {x : tStore} (h : storeOf p x = true) : 0 ≤ x.1 ∧ x.1 ≤ p.length ∧ x.2.length = 24 ∧ allW x.2 0 1000000 = true := by
  unfold storeOf at h
  simp only [Bool.and_eq_true] at h
  have h1 := withinB_true.1 h.1.1
  have h2 : ((x.2.length : Int) == 24) = true := h.1.2
  simp at h2
  exact ⟨h1.1, h1.2, by omega, h.2⟩

theorem validProg_reg {p : List tInstr} (h : validProg p = true) : ∀ i ∈ p, 0 ≤ i.2.1 ∧ i.2.1 ≤ 23 := by
  intro i hi
  unfold validProg at h
  simp at h
  have h1 := h.2 i.1 i.2.1 i.2.2.1 i.2.2.2 hi
  unfold validInstr isReg at h1
  simp only [Bool.and_eq_true] at h1
  have h2 := withinB_true.1 h1.1.1
  exact ⟨h2.1, h2.2⟩

theorem allW_mem {xs : List Int} {lo hi : Int} (h : allW xs lo hi = true) : ∀ x ∈ xs, lo ≤ x ∧ x ≤ hi := by
  intro x hx
  unfold allW outB at h
  simp at h
  exact withinB_true.1 (h x hx)

def haltsS (p : List tInstr) (x : tStore) : Bool := x.1 == (p.length : Int)

def askS (p : List tInstr) (x : tStore) : Int := if validStore p x then 0 else 1

def stepS2 (p : List tInstr) (x : tStore) : tStore × Bool := ((stepS p x).2, (stepS p x).1)

def counts07 (xs : List Int) : Bool := allW xs 0 1000000

theorem validStore_prog {p : List tInstr} {x : tStore} (h : validStore p x = true) : validProg p = true := by unfold validStore at h; simp at h; exact h.1

theorem validStore_of {p : List tInstr} {x : tStore} (h : validStore p x = true) : storeOf p x = true := by unfold validStore at h; simp at h; exact h.2

theorem askS_ok {p : List tInstr} {x : tStore} (h : askS p x = 0) : validStore p x = true := by unfold askS at h; grind

theorem allW_of {xs : List Int} {lo hi : Int} (h : ∀ x ∈ xs, lo ≤ x ∧ x ≤ hi) : allW xs lo hi = true := by
  unfold allW outB; simp; exact fun x hx => withinB_true.2 (h x hx)

theorem storeOf_mk {p : List tInstr} {x : tStore} (h0 : 0 ≤ x.1) (h1 : x.1 ≤ p.length) (h2 : x.2.length = 24) (h3 : allW x.2 0 1000000 = true) : storeOf p x = true := by
  unfold storeOf; simp [withinB_true.2 ⟨h0, h1⟩, h2, h3]

theorem validProg_to {p : List tInstr} (h : validProg p = true) : ∀ i ∈ p, (0 ≤ i.2.2.1 ∧ i.2.2.1 ≤ p.length) ∧ (0 ≤ i.2.2.2 ∧ i.2.2.2 ≤ p.length) := by
  intro i hi
  unfold validProg at h
  simp at h
  have h1 := h.2 i.1 i.2.1 i.2.2.1 i.2.2.2 hi
  unfold validInstr at h1
  simp only [Bool.and_eq_true] at h1
  refine ⟨withinB_true.1 h1.1.2, ?_⟩
  have h3 := h1.2
  split at h3
  · simp at h3; omega
  · split at h3
    · exact withinB_true.1 h3
    · simp at h3

theorem storeOf_step {p : List tInstr} {y : tStore} (hp : validProg p = true) (hy : storeOf p y = true) (hl : y.1 < (p.length : Int)) (hs : (stepS p y).1 = true) : storeOf p (stepS p y).2 = true := by
  obtain ⟨h0, h1, h2, h3⟩ := storeOf_facts hy
  have hk : y.1.toNat < p.length := by omega
  have hm := List.getElem_mem hk
  obtain ⟨⟨t0, t1⟩, t2, t3⟩ := validProg_to hp _ hm
  obtain ⟨r0, r1⟩ := validProg_reg hp _ hm
  have hget : p[y.1.toNat]?.getD (0, 0, 0, 0) = p[y.1.toNat] := by simp [hk]
  have hr : (p[y.1.toNat]).2.1.toNat < y.2.length := by omega
  have hv : y.2[(p[y.1.toNat]).2.1.toNat]?.getD 0 = y.2[(p[y.1.toNat]).2.1.toNat] := by simp [hr]
  have hb := allW_mem h3 _ (List.getElem_mem hr)
  unfold stepS at hs ⊢
  simp only [hget, hv] at hs ⊢
  generalize y.2[(p[y.1.toNat]).2.1.toNat] = v at *
  split
  · rename_i hc
    simp only [hc, if_true] at hs
    have hs' := of_decide_eq_true hs
    refine storeOf_mk t0 t1 (by simp [h2]) (allW_of fun x hx => ?_)
    rcases List.mem_or_eq_of_mem_set hx with q | q
    · exact allW_mem h3 x q
    · omega
  · split
    · refine storeOf_mk t0 t1 (by simp [h2]) (allW_of fun x hx => ?_)
      rcases List.mem_or_eq_of_mem_set hx with q | q
      · exact allW_mem h3 x q
      · omega
    · exact storeOf_mk t2 t3 h2 h3

set_option maxRecDepth 100000 in
set_option maxHeartbeats 4000000 in
theorem impl_stepStore (M : Nat → Prop) (A0 : Option Addr) (c0 : Nat) (a0 : (List tInstr)) (p1 : Nat) (es1 : List Value) (a1 : tStore) (S1 : Nat → Prop) (w : World) (HM : Held M w [rBlk p1 55 es1, rO eStore S1 es1 a1] w) (h0 : Sl eInstr w (Out M w) A0 c0 a0) (s0 : validProg a0 = true) (s1 : storeOf a0 a1 = true) (s2 : a1.1 < (a0.length : Int)) :
    Calls Try.prog 191 #[.slice A0 a0.length c0, .pointer (some ⟨p1, 0, none⟩)] w fun e w' => ∃ (es1' : List Value) (S1' : Nat → Prop), e = .returned (.bool (stepS a0 a1).1) ∧ Held M w [rBlk p1 55 es1', rO eStore S1' es1' (stepS a0 a1).2] w' := by
  have l0 := h0.len
  have HH1 := HM
  have R1 := HH1.rd (i := 1) rfl
  obtain ⟨Az1_1, cz1_1, rfl, gz1_0, gz1_1⟩ := shape_Store R1
  have jz1_0 := gz1_0; unfold I64 at jz1_0
  have lz1_1 := gz1_1.len
  clear R1
  have HH2 := HH1.sel [1, 0] (by decide) rfl
  have HH3 := HH2.unF rfl
  obtain ⟨v0, v1, v2, v3⟩ := storeOf_facts s1
  refine enter (n := 59) Try.func191 rfl rfl rfl fun a_4 HE5 => ?_
  refine wp_seq ?_
  refine rg ?_
  refine pl_x HE5 HH3 (wt0 rfl) (x_assign rfl) rfl rfl fun a_6 HE7 => ?_
  refine wpList_nil ?_
  clear HH1 HH2 a_4 HE5
  refine nrm ?_
  refine wp_seq ?_
  refine rg ?_
  refine pl_x HE7 HH3 (wt0 rfl) (x_move rfl) rfl rfl fun a_8 HE9 => ?_
  refine pl_x HE9 HH3 (wt0 rfl) (x_move rfl) rfl rfl fun a_10 HE11 => ?_
  refine pl_x HE11 HH3 (wt0 rfl) (x_nilCheck rfl) rfl rfl fun a_12 HE13 => ?_
  refine pl_x HE13 HH3 (wt0 rfl) (x_fieldAddr fa_55_0 rfl) rfl rfl fun a_14 HE15 => ?_
  refine pl_x HE15 HH3 (wt0 rfl) (x_load1 tv_2 rfl (c_blk 1 rfl rfl)) rfl rfl fun a_16 HE17 => ?_
  have ke21 : (a1.1).toNat < a0.length := by omega
  obtain ⟨be21, fe21, ese21, Ae21, Re21, De21, Ne21⟩ := el_oldM h0 ke21
  obtain ⟨e21, xe21⟩ : ∃ x_, x_ = a0[(a1.1).toNat] := ⟨_, rfl⟩
  rw [← xe21] at Re21
  have Qe21 := Re21
  obtain ⟨rfl, ge21_0, ge21_1, ge21_2, ge21_3⟩ := shape_Instr Re21
  have je21_0 := ge21_0; unfold I64 at je21_0
  have je21_1 := ge21_1; unfold I64 at je21_1
  have je21_2 := ge21_2; unfold I64 at je21_2
  have je21_3 := ge21_3; unfold I64 at je21_3
  obtain ⟨re211, re212⟩ := validProg_reg s0 e21 (by rw [xe21]; exact List.getElem_mem _)
  refine pl_x HE17 HH3 (wt0 rfl) (x_indexAddr ts_24 rfl rfl Ae21 (by omega) ke21) rfl rfl fun a_18 HE19 => ?_
  refine pl_x HE19 HH3 (wt0 rfl) (x_loadN (cs := [.int .i64 (e21.1), .int .i64 (e21.2.1), .int .i64 (e21.2.2.1), .int .i64 (e21.2.2.2)]) tv_116 rfl rfl (c_oldNM Ne21 De21)) rfl rfl fun a_20 HE21 => ?_
  refine pl fun K_22 hK23 => ?_
  refine st_alloc HE21 HH3 tv_116 (wt0 rfl) rfl fun q22 a_24 w' HE25 HH26 => hK23 _ _ ?_
  refine pl fun K_27 hK28 => ?_
  refine st_store (vs := [.int .i64 (e21.1), .int .i64 (e21.2.1), .int .i64 (e21.2.2.1), .int .i64 (e21.2.2.2)]) 0 HE25 HH26 tv_116 rfl rfl rfl rfl rfl rfl (by simp [Value.oneCell']) (wt0 rfl) fun w' HH29 => hK28 _ _ ?_
  refine wpList_nil ?_
  clear a_6 HE7 a_8 HE9 a_10 HE11 a_12 HE13 a_14 HE15 a_16 HE17 a_18 HE19 a_20 HE21 HH3 K_22 hK23 HH26 hK28 K_27
  refine nrm ?_
  refine wp_seq ?_
  refine dr_start (Held M w [rBlk q22 116 [.int .i64 (e21.1), .int .i64 (e21.2.1), .int .i64 (e21.2.2.1), .int .i64 (e21.2.2.2)], rSo eInt S1 Az1_1 cz1_1 a1.2, rBlk p1 55 [.int .i64 (a1.1), .slice Az1_1 (a1.2.length) cz1_1]]) 8 #[false, false, false, false, false, false, false, false] hmix rfl rfl HH29 (fun _ h => h.sel [0, 1, 2] (by decide) rfl) fun w' HH30 => ?_
  have HS31 := HH30
  refine dr_take (i := 0) (ls' := #[true, false, false, false, false, false, false, false]) HE25 HS31 rfl (by kernel_rfl) (by kernel_rfl) (by kernel_rfl) (fun _ _ _ h => h) rfl (wt0 rfl) (x_move rfl) rfl rfl fun a_32 HE33 => ?_
  refine dr_take (i := 1) (ls' := #[true, true, false, false, false, false, false, false]) HE33 HS31 rfl (by kernel_rfl) (by kernel_rfl) (by kernel_rfl) (fun _ _ _ h => h) rfl (wt0 rfl) (x_nilCheck rfl) rfl rfl fun a_34 HE35 => ?_
  refine dr_take (i := 2) (ls' := #[true, true, true, false, false, false, false, false]) HE35 HS31 rfl (by kernel_rfl) (by kernel_rfl) (by kernel_rfl) (fun _ _ _ h => h) rfl (wt0 rfl) (x_fieldAddr fa_55_1 rfl) rfl rfl fun a_36 HE37 => ?_
  refine dr_take (i := 3) (ls' := #[true, true, true, true, false, false, false, false]) HE37 HS31 rfl (by kernel_rfl) (by kernel_rfl) (by kernel_rfl) (fun _ _ _ h => h) rfl (wt0 rfl) (x_load1 tv_31 rfl (c_blk 2 rfl rfl)) rfl rfl fun a_38 HE39 => ?_
  refine dr_take (i := 4) (ls' := #[true, true, true, true, true, false, false, false]) HE39 HS31 rfl (by kernel_rfl) (by kernel_rfl) (by kernel_rfl) (fun _ _ _ h => h) rfl (wt0 rfl) (x_fieldAddr fa_116_1 rfl) rfl rfl fun a_40 HE41 => ?_
  refine dr_take (i := 5) (ls' := #[true, true, true, true, true, true, false, false]) HE41 HS31 rfl (by kernel_rfl) (by kernel_rfl) (by kernel_rfl) (fun _ _ _ h => h) rfl (wt0 rfl) (x_load1 tv_2 rfl (c_blk 0 rfl rfl)) rfl rfl fun a_42 HE43 => ?_
  have ke23 : (e21.2.1).toNat < a1.2.length := by omega
  obtain ⟨be23, fe23, rfl⟩ := el_own HH30 (i := 1) rfl ke23
  refine dr_take (i := 6) (ls' := #[true, true, true, true, true, true, true, false]) HE43 HS31 rfl (by kernel_rfl) (by kernel_rfl) (by kernel_rfl) (fun _ _ _ h => h) rfl (wt0 rfl) (x_indexAddr ts_31 rfl rfl rfl (by omega) ke23) rfl rfl fun a_44 HE45 => ?_
  refine dr_take (i := 7) (ls' := #[true, true, true, true, true, true, true, true]) HE45 HS31 rfl (by kernel_rfl) (by kernel_rfl) (by kernel_rfl) (fun _ _ _ h => h) rfl (wt0 rfl) (x_assign rfl) rfl rfl fun a_46 HE47 => ?_
  refine dr_done (by kernel_rfl) ?_
  clear HH29 a_24 HE25 a_32 HE33 a_34 HE35 a_36 HE37 a_38 HE39 a_40 HE41 a_42 HE43 a_44 HE45
  refine nrm ?_
  refine wp_seq ?_
  refine wp_block ?_
  refine wp_seq ?_
  refine rg ?_
  refine pl_x HE47 HH30 (wt0 rfl) (x_fieldAddr fa_116_0 rfl) rfl rfl fun a_48 HE49 => ?_
  refine pl_x HE49 HH30 (wt0 rfl) (x_load1 tv_2 rfl (c_blk 0 rfl rfl)) rfl rfl fun a_50 HE51 => ?_
  refine pl_x HE51 HH30 (wt0 rfl) (x_eql rfl rfl) rfl rfl fun a_52 HE53 => ?_
  refine pl_x HE53 HH30 (wt0 rfl) (x_assign rfl) rfl rfl fun a_54 HE55 => ?_
  refine wpList_nil ?_
  clear a_46 HE47 a_48 HE49 a_50 HE51 a_52 HE53
  refine nrm ?_
  refine cnd_e HE55 rfl (fun hc24 => ?_) (fun hc24 => ?_)
  · refine wp_seq ?_
    refine rg ?_
    refine pl_x HE55 HH30 (wt0 rfl) (x_move rfl) rfl rfl fun a_56 HE57 => ?_
    refine pl_x HE57 HH30 (wt0 rfl) (x_nilCheck rfl) rfl rfl fun a_58 HE59 => ?_
    obtain ⟨y25, xy25⟩ : ∃ y_, y_ = a1.2[(e21.2.1).toNat]'(by first | exact ke23 | (simp only [List.length_set]; exact ke23) | omega | (simp only [List.length_set]; omega) | (simp; omega)) := ⟨_, rfl⟩
    have iy25 : I64 y25 := by rw [xy25]; exact i_ownI HH30 1 rfl _
    have jy25 := iy25; unfold I64 at jy25
    have by25 := allW_mem v3 y25 (by rw [xy25]; exact List.getElem_mem _)
    refine pl_x HE59 HH30 (wt0 rfl) (x_load1 tv_2 rfl (c_ownV 1 rfl (by first | exact ke23 | (simp only [List.length_set]; exact ke23) | omega | (simp only [List.length_set]; omega) | (simp; omega)) xy25.symm)) rfl rfl fun a_60 HE61 => ?_
    refine pl_x HE61 HH30 (wt0 rfl) (x_add rfl rfl (by exact ⟨by omega, by omega⟩)) rfl rfl fun a_62 HE63 => ?_
    refine pl_x HE63 HH30 (wt0 rfl) (x_nilCheck rfl) rfl rfl fun a_64 HE65 => ?_
    refine pl fun K_66 hK67 => ?_
    refine st_storeI 1 HE65 HH30 tv_2 rfl rfl rfl (by first | exact ke23 | (simp only [List.length_set]; exact ke23) | omega | (simp only [List.length_set]; omega) | (simp; omega)) (by exact ⟨by omega, by omega⟩) (wt0 rfl) fun w' HH68 => hK67 _ _ ?_
    refine wpList_nil ?_
    clear a_54 HE55 a_56 HE57 a_58 HE59 a_60 HE61 a_62 HE63 HH30 hK67 K_66
    refine nrm ?_
    refine rg ?_
    refine pl_x HE65 HH68 (wt0 rfl) (x_move rfl) rfl rfl fun a_69 HE70 => ?_
    refine pl_x HE70 HH68 (wt0 rfl) (x_fieldAddr fa_116_2 rfl) rfl rfl fun a_71 HE72 => ?_
    refine pl_x HE72 HH68 (wt0 rfl) (x_load1 tv_2 rfl (c_blk 0 rfl rfl)) rfl rfl fun a_73 HE74 => ?_
    refine pl_x HE74 HH68 (wt0 rfl) (x_nilCheck rfl) rfl rfl fun a_75 HE76 => ?_
    refine pl_x HE76 HH68 (wt0 rfl) (x_fieldAddr fa_55_0 rfl) rfl rfl fun a_77 HE78 => ?_
    refine pl fun K_79 hK80 => ?_
    refine st_store (vs := [.int .i64 (e21.2.2.1)]) 2 HE78 HH68 tv_2 rfl rfl rfl rfl rfl rfl (by simp [Value.oneCell']) (wt0 rfl) fun w' HH81 => hK80 _ _ ?_
    refine wpList_nil ?_
    clear a_64 HE65 a_69 HE70 a_71 HE72 a_73 HE74 a_75 HE76 HH68 hK80 K_79
    refine blk_n ?_
    refine nrm ?_
    refine wp_seq ?_
    refine rg ?_
    refine pl_x HE78 HH81 (wt0 rfl) (x_move rfl) rfl rfl fun a_82 HE83 => ?_
    refine pl_x HE83 HH81 (wt0 rfl) (x_nilCheck rfl) rfl rfl fun a_84 HE85 => ?_
    refine pl_x HE85 HH81 (wt0 rfl) (x_load1 tv_2 rfl (c_ownV (y := (y25 + 1)) 1 rfl (by first | exact ke23 | (simp only [List.length_set]; exact ke23) | omega | (simp only [List.length_set]; omega) | (simp; omega)) (by simp))) rfl rfl fun a_86 HE87 => ?_
    refine pl_x HE87 HH81 (wt0 rfl) (x_leq rfl rfl) rfl rfl fun a_88 HE89 => ?_
    refine pl_x HE89 HH81 (wt0 rfl) (x_assign rfl) rfl rfl fun a_90 HE91 => ?_
    refine wpList_nil ?_
    clear a_77 HE78 a_82 HE83 a_84 HE85 a_86 HE87 a_88 HE89
    refine nrm ?_
    refine wp_ret ?_
    refine ret1 HE91 rfl (rv_tmp rfl) ?_
    have HH92 := HH81.sel [1, 0, 2] (by decide) rfl
    have HH93 := HH92.relen (n := a1.2.length) (by first | exact mkL_len _ _ _ _ | (simp; done) | (simp; omega))
    have HH94 := HH93.pairF (E := eInt) (c1 := [.int .i64 (e21.2.2.1)]) (x := e21.2.2.1) (oI (by exact ⟨by omega, by omega⟩))
    obtain ⟨S26, HH95⟩ : ∃ S, Held M w (rO eStore S [.int .i64 (e21.2.2.1), .slice (some ⟨be23, fe23, none⟩) (a1.2.length) cz1_1] (e21.2.2.1, (a1.2.set ((e21.2.1).toNat) (y25 + 1))) :: _) _ := ⟨_, HH94⟩
    have hF : (stepS a0 a1) = (decide ((y25 + 1) ≤ 1000000), (e21.2.2.1, (a1.2.set ((e21.2.1).toNat) (y25 + 1)))) := by
      grind [stepS]
    exact ⟨_, _, by rw [hF] <;> rfl, by rw [hF]; exact HH95.sel [2, 0] (by decide) rfl⟩
  · refine wp_seq ?_
    refine rg ?_
    refine pl_x HE55 HH30 (wt0 rfl) (x_move rfl) rfl rfl fun a_96 HE97 => ?_
    refine pl_x HE97 HH30 (wt0 rfl) (x_nilCheck rfl) rfl rfl fun a_98 HE99 => ?_
    obtain ⟨y27, xy27⟩ : ∃ y_, y_ = a1.2[(e21.2.1).toNat]'(by first | exact ke23 | (simp only [List.length_set]; exact ke23) | omega | (simp only [List.length_set]; omega) | (simp; omega)) := ⟨_, rfl⟩
    have iy27 : I64 y27 := by rw [xy27]; exact i_ownI HH30 1 rfl _
    have jy27 := iy27; unfold I64 at jy27
    have by27 := allW_mem v3 y27 (by rw [xy27]; exact List.getElem_mem _)
    refine pl_x HE99 HH30 (wt0 rfl) (x_load1 tv_2 rfl (c_ownV 1 rfl (by first | exact ke23 | (simp only [List.length_set]; exact ke23) | omega | (simp only [List.length_set]; omega) | (simp; omega)) xy27.symm)) rfl rfl fun a_100 HE101 => ?_
    refine pl_x HE101 HH30 (wt0 rfl) (x_gtr rfl rfl) rfl rfl fun a_102 HE103 => ?_
    refine pl_x HE103 HH30 (wt0 rfl) (x_assign rfl) rfl rfl fun a_104 HE105 => ?_
    refine wpList_nil ?_
    clear a_54 HE55 a_96 HE97 a_98 HE99 a_100 HE101 a_102 HE103
    refine nrm ?_
    refine cnd_d HE105 rfl (fun hc28 => ?_) (fun hc28 => ?_)
    · refine wp_seq ?_
      refine rg ?_
      refine pl_x HE105 HH30 (wt0 rfl) (x_move rfl) rfl rfl fun a_106 HE107 => ?_
      refine pl_x HE107 HH30 (wt0 rfl) (x_nilCheck rfl) rfl rfl fun a_108 HE109 => ?_
      obtain ⟨y29, xy29⟩ : ∃ y_, y_ = a1.2[(e21.2.1).toNat]'(by first | exact ke23 | (simp only [List.length_set]; exact ke23) | omega | (simp only [List.length_set]; omega) | (simp; omega)) := ⟨_, rfl⟩
      have iy29 : I64 y29 := by rw [xy29]; exact i_ownI HH30 1 rfl _
      have jy29 := iy29; unfold I64 at jy29
      have by29 := allW_mem v3 y29 (by rw [xy29]; exact List.getElem_mem _)
      refine pl_x HE109 HH30 (wt0 rfl) (x_load1 tv_2 rfl (c_ownV 1 rfl (by first | exact ke23 | (simp only [List.length_set]; exact ke23) | omega | (simp only [List.length_set]; omega) | (simp; omega)) xy29.symm)) rfl rfl fun a_110 HE111 => ?_
      refine pl_x HE111 HH30 (wt0 rfl) (x_sub rfl rfl (by exact ⟨by omega, by omega⟩)) rfl rfl fun a_112 HE113 => ?_
      refine pl_x HE113 HH30 (wt0 rfl) (x_nilCheck rfl) rfl rfl fun a_114 HE115 => ?_
      refine pl fun K_116 hK117 => ?_
      refine st_storeI 1 HE115 HH30 tv_2 rfl rfl rfl (by first | exact ke23 | (simp only [List.length_set]; exact ke23) | omega | (simp only [List.length_set]; omega) | (simp; omega)) (by exact ⟨by omega, by omega⟩) (wt0 rfl) fun w' HH118 => hK117 _ _ ?_
      refine wpList_nil ?_
      clear a_104 HE105 a_106 HE107 a_108 HE109 a_110 HE111 a_112 HE113 HH30 hK117 K_116
      refine nrm ?_
      refine rg ?_
      refine pl_x HE115 HH118 (wt0 rfl) (x_move rfl) rfl rfl fun a_119 HE120 => ?_
      refine pl_x HE120 HH118 (wt0 rfl) (x_fieldAddr fa_116_2 rfl) rfl rfl fun a_121 HE122 => ?_
      refine pl_x HE122 HH118 (wt0 rfl) (x_load1 tv_2 rfl (c_blk 0 rfl rfl)) rfl rfl fun a_123 HE124 => ?_
      refine pl_x HE124 HH118 (wt0 rfl) (x_nilCheck rfl) rfl rfl fun a_125 HE126 => ?_
      refine pl_x HE126 HH118 (wt0 rfl) (x_fieldAddr fa_55_0 rfl) rfl rfl fun a_127 HE128 => ?_
      refine pl fun K_129 hK130 => ?_
      refine st_store (vs := [.int .i64 (e21.2.2.1)]) 2 HE128 HH118 tv_2 rfl rfl rfl rfl rfl rfl (by simp [Value.oneCell']) (wt0 rfl) fun w' HH131 => hK130 _ _ ?_
      refine wpList_nil ?_
      clear a_114 HE115 a_119 HE120 a_121 HE122 a_123 HE124 a_125 HE126 HH118 hK130 K_129
      refine blk_n ?_
      refine nrm ?_
      refine wp_seq ?_
      refine rg ?_
      refine pl_x HE128 HH131 (wt0 rfl) (x_move rfl) rfl rfl fun a_132 HE133 => ?_
      refine pl_x HE133 HH131 (wt0 rfl) (x_nilCheck rfl) rfl rfl fun a_134 HE135 => ?_
      refine pl_x HE135 HH131 (wt0 rfl) (x_load1 tv_2 rfl (c_ownV (y := (y29 - 1)) 1 rfl (by first | exact ke23 | (simp only [List.length_set]; exact ke23) | omega | (simp only [List.length_set]; omega) | (simp; omega)) (by simp))) rfl rfl fun a_136 HE137 => ?_
      refine pl_x HE137 HH131 (wt0 rfl) (x_leq rfl rfl) rfl rfl fun a_138 HE139 => ?_
      refine pl_x HE139 HH131 (wt0 rfl) (x_assign rfl) rfl rfl fun a_140 HE141 => ?_
      refine wpList_nil ?_
      clear a_127 HE128 a_132 HE133 a_134 HE135 a_136 HE137 a_138 HE139
      refine nrm ?_
      refine wp_ret ?_
      refine ret1 HE141 rfl (rv_tmp rfl) ?_
      have HH142 := HH131.sel [1, 0, 2] (by decide) rfl
      have HH143 := HH142.relen (n := a1.2.length) (by first | exact mkL_len _ _ _ _ | (simp; done) | (simp; omega))
      have HH144 := HH143.pairF (E := eInt) (c1 := [.int .i64 (e21.2.2.1)]) (x := e21.2.2.1) (oI (by exact ⟨by omega, by omega⟩))
      obtain ⟨S30, HH145⟩ : ∃ S, Held M w (rO eStore S [.int .i64 (e21.2.2.1), .slice (some ⟨be23, fe23, none⟩) (a1.2.length) cz1_1] (e21.2.2.1, (a1.2.set ((e21.2.1).toNat) (y29 - 1))) :: _) _ := ⟨_, HH144⟩
      have hF : (stepS a0 a1) = (decide ((y29 - 1) ≤ 1000000), (e21.2.2.1, (a1.2.set ((e21.2.1).toNat) (y29 - 1)))) := by
        grind [stepS]
      exact ⟨_, _, by rw [hF] <;> rfl, by rw [hF]; exact HH145.sel [2, 0] (by decide) rfl⟩
    · refine rg ?_
      refine pl_x HE105 HH30 (wt0 rfl) (x_move rfl) rfl rfl fun a_146 HE147 => ?_
      refine pl_x HE147 HH30 (wt0 rfl) (x_fieldAddr fa_116_3 rfl) rfl rfl fun a_148 HE149 => ?_
      refine pl_x HE149 HH30 (wt0 rfl) (x_load1 tv_2 rfl (c_blk 0 rfl rfl)) rfl rfl fun a_150 HE151 => ?_
      refine pl_x HE151 HH30 (wt0 rfl) (x_nilCheck rfl) rfl rfl fun a_152 HE153 => ?_
      refine pl_x HE153 HH30 (wt0 rfl) (x_fieldAddr fa_55_0 rfl) rfl rfl fun a_154 HE155 => ?_
      refine pl fun K_156 hK157 => ?_
      refine st_store (vs := [.int .i64 (e21.2.2.2)]) 2 HE155 HH30 tv_2 rfl rfl rfl rfl rfl rfl (by simp [Value.oneCell']) (wt0 rfl) fun w' HH158 => hK157 _ _ ?_
      refine wpList_nil ?_
      clear a_104 HE105 a_146 HE147 a_148 HE149 a_150 HE151 a_152 HE153 HH30 hK157 K_156
      refine blk_n ?_
      refine nrm ?_
      refine wp_seq ?_
      refine rg ?_
      refine pl_x HE155 HH158 (wt0 rfl) (x_move rfl) rfl rfl fun a_159 HE160 => ?_
      refine pl_x HE160 HH158 (wt0 rfl) (x_nilCheck rfl) rfl rfl fun a_161 HE162 => ?_
      obtain ⟨y31, xy31⟩ : ∃ y_, y_ = a1.2[(e21.2.1).toNat]'(by first | exact ke23 | (simp only [List.length_set]; exact ke23) | omega | (simp only [List.length_set]; omega) | (simp; omega)) := ⟨_, rfl⟩
      have iy31 : I64 y31 := by rw [xy31]; exact i_ownI HH158 1 rfl _
      have jy31 := iy31; unfold I64 at jy31
      have by31 := allW_mem v3 y31 (by rw [xy31]; exact List.getElem_mem _)
      refine pl_x HE162 HH158 (wt0 rfl) (x_load1 tv_2 rfl (c_ownV 1 rfl (by first | exact ke23 | (simp only [List.length_set]; exact ke23) | omega | (simp only [List.length_set]; omega) | (simp; omega)) xy31.symm)) rfl rfl fun a_163 HE164 => ?_
      refine pl_x HE164 HH158 (wt0 rfl) (x_leq rfl rfl) rfl rfl fun a_165 HE166 => ?_
      refine pl_x HE166 HH158 (wt0 rfl) (x_assign rfl) rfl rfl fun a_167 HE168 => ?_
      refine wpList_nil ?_
      clear a_154 HE155 a_159 HE160 a_161 HE162 a_163 HE164 a_165 HE166
      refine nrm ?_
      refine wp_ret ?_
      refine ret1 HE168 rfl (rv_tmp rfl) ?_
      have HH169 := HH158.sel [1, 0, 2] (by decide) rfl
      have HH170 := HH169.pairF (E := eInt) (c1 := [.int .i64 (e21.2.2.2)]) (x := e21.2.2.2) (oI (by exact ⟨by omega, by omega⟩))
      obtain ⟨S32, HH171⟩ : ∃ S, Held M w (rO eStore S [.int .i64 (e21.2.2.2), .slice (some ⟨be23, fe23, none⟩) (a1.2.length) cz1_1] (e21.2.2.2, a1.2) :: _) _ := ⟨_, HH170⟩
      have hF : (stepS a0 a1) = (decide (y31 ≤ 1000000), (e21.2.2.2, a1.2)) := by
        grind [stepS]
      exact ⟨_, _, by rw [hF] <;> rfl, by rw [hF]; exact HH171.sel [2, 0] (by decide) rfl⟩

set_option maxRecDepth 100000 in
set_option maxHeartbeats 4000000 in
theorem impl_copyStore (es0 : List Value) (a0 : tStore) (w : World) (h0 : eStore.R w (Old w) es0 a0) (s0 : a0.2.length ≤ 1000000000) :
    Calls Try.prog 113 #[.agg es0.toArray] w fun e w' => ∃ (es0' : List Value), e = .returned (.agg es0'.toArray) ∧ eStore.O w' (Fr w w') es0' a0 ∧ Below w.heap.size w w' := by
  have H0 := h0
  obtain ⟨Az0_1, cz0_1, rfl, gz0_0, gz0_1⟩ := shape_Store h0
  have jz0_0 := gz0_0; unfold I64 at jz0_0
  have lz0_1 := gz0_1.len
  have HH1 := Held.start Nob w
  refine enter (n := 9) Try.func113 rfl rfl rfl fun a_2 HE3 => ?_
  refine wp_seq ?_
  refine rg ?_
  refine pl fun K_4 hK5 => ?_
  refine st_box (cs := [.int .i64 (a0.1), .slice Az0_1 (a0.2.length) cz0_1]) HE3 HH1 rfl rfl (wt0 rfl) rfl fun q21 a_6 w' HE7 HH8 => hK5 _ _ ?_
  refine pl fun K_9 hK10 => ?_
  refine st_alloc HE7 HH8 tv_55 (wt0 rfl) rfl fun q22 a_11 w' HE12 HH13 => hK10 _ _ ?_
  refine wpList_nil ?_
  clear a_2 HE3 HH1 K_4 hK5 a_6 HE7 HH8 hK10 K_9
  refine nrm ?_
  refine wp_seq ?_
  refine dr_start (Held Nob w [rBlk q21 55 [.int .i64 (a0.1), .slice Az0_1 (a0.2.length) cz0_1]]) 7 #[false, false, false, false, false, false, false] hmix rfl rfl HH13 (fun _ h => h.sel [1] (by decide) rfl) fun w' HH14 => ?_
  have HS15 := HH14.sel [1] (by decide) rfl
  refine dr_take (i := 0) (ls' := #[true, false, false, false, false, false, false]) HE12 HS15 rfl (by kernel_rfl) (by kernel_rfl) (by kernel_rfl) (fun _ _ _ h => h) rfl (wt0 rfl) (x_fieldAddr fa_55_0 rfl) rfl rfl fun a_16 HE17 => ?_
  refine dr_take (i := 1) (ls' := #[true, true, false, false, false, false, false]) HE17 HS15 rfl (by kernel_rfl) (by kernel_rfl) (by kernel_rfl) (fun _ _ _ h => h) rfl (wt0 rfl) (x_load1 tv_2 rfl (c_blk 0 rfl rfl)) rfl rfl fun a_18 HE19 => ?_
  refine dr_take (i := 2) (ls' := #[true, true, true, false, false, false, false]) HE19 HS15 rfl (by kernel_rfl) (by kernel_rfl) (by kernel_rfl) (fun _ _ _ h => h) rfl (wt0 rfl) (x_fieldAddr fa_55_1 rfl) rfl rfl fun a_20 HE21 => ?_
  refine dr_take (i := 3) (ls' := #[true, true, true, true, false, false, false]) HE21 HS15 rfl (by kernel_rfl) (by kernel_rfl) (by kernel_rfl) (fun _ _ _ h => h) rfl (wt0 rfl) (x_load1 tv_31 rfl (c_blk 0 rfl rfl)) rfl rfl fun a_22 HE23 => ?_
  refine dr_one (i := 4) (ls' := #[true, true, true, true, true, false, false]) rfl (by kernel_rfl) rfl fun K_24 hK25 => ?_
  refine st_call HE23 (wt0 rfl) rfl rfl rfl en_152 rfl rfl (Clone_Int64 _ _ a0.2 _ (HH14.old gz0_1) (by omega)) fun e w' hr => ?_
  obtain ⟨Ar23_0, cr23_0, rfl, hor23_0, hbr23⟩ := hr
  obtain ⟨Sr23, HH26⟩ := HH14.newS hbr23 hor23_0
  refine ⟨_, rfl, fun a_27 HE28 => hK25 _ _ (by exact HH26.sel [2] (by decide) rfl) ?_⟩
  have HS29 := HH26.sel [2] (by decide) rfl
  refine dr_take (i := 5) (ls' := #[true, true, true, true, true, true, false]) HE28 HS29 rfl (by kernel_rfl) (by kernel_rfl) (by kernel_rfl) (fun _ _ _ h => h) rfl (wt0 rfl) (show XS _ _ _ _ (.agg #[.int .i64 (a0.1), .slice Ar23_0 (a0.2.length) cr23_0]) from x_build (vs := [(0, .int .i64 (a0.1)), (1, .slice Ar23_0 (a0.2.length) cr23_0)]) tb_55 rfl (by simp [Value.oneCell'])) rfl rfl fun a_30 HE31 => ?_
  refine dr_one (i := 6) (ls' := #[true, true, true, true, true, true, true]) rfl (by kernel_rfl) rfl fun K_32 hK33 => ?_
  refine st_store (vs := [.int .i64 (a0.1), .slice Ar23_0 (a0.2.length) cr23_0]) 1 HE31 HH26 tv_55 rfl rfl rfl rfl rfl rfl (by simp [Value.oneCell']) (wt0 rfl) fun w' HH34 => hK33 _ _ (by exact HH34.sel [2] (by decide) rfl) ?_
  have HS35 := HH34.sel [2] (by decide) rfl
  refine dr_done (by kernel_rfl) ?_
  clear HH13 a_11 HE12 a_16 HE17 a_18 HE19 a_20 HE21 HH14 a_22 HE23 HS15 a_27 HE28 K_24 hK25 HH26 HS29 hK33 K_32
  refine nrm ?_
  refine wp_ret ?_
  refine ret1 HE31 rfl (rv_cell rfl (tv_55.loadN (cs := [.int .i64 (a0.1), .slice Ar23_0 (a0.2.length) cr23_0]) rfl (c_blkN 1 rfl _ HH34))) ?_
  have HH36 := HH34.pairF (E := eInt) (c1 := [.int .i64 (a0.1)]) (x := a0.1) (oI (by exact ⟨by omega, by omega⟩))
  obtain ⟨S24, HH37⟩ : ∃ S, Held Nob w (rO eStore S [.int .i64 (a0.1), .slice Ar23_0 (a0.2.length) cr23_0] a0 :: _) _ := ⟨_, HH36⟩
  exact ⟨_, rfl, (HH37.o (i := 0) rfl), HH37.below⟩

set_option maxRecDepth 100000 in
set_option maxHeartbeats 4000000 in
theorem spec_l07GoodP (A0 : Option Addr) (c0 : Nat) (a0 : (List tInstr)) (p1 o1 : Nat) (es1 : List Value) (a1 : tStore) (w : World) (h0 : Sl eInstr w (Old w) A0 c0 a0) (h1 : eStore.R w (Old w) es1 a1) (hq1 : ∀ j v, es1[j]? = some v → w.cell? ⟨p1, o1 + j, none⟩ = some v) :
    Calls Try.prog 189 #[.slice A0 a0.length c0, .pointer (some ⟨p1, o1, none⟩)] w fun e w' => e = .returned (.bool (storeOf a0 a1)) ∧ w = w' := by
  have l0 := h0.len
  have H1 := h1
  obtain ⟨Az1_1, cz1_1, rfl, gz1_0, gz1_1⟩ := shape_Store h1
  have jz1_0 := gz1_0; unfold I64 at jz1_0
  have lz1_1 := gz1_1.len
  have HH1 := Held.start Nob w
  refine enter (n := 27) Try.func189 rfl rfl rfl fun a_2 HE3 => ?_
  refine wp_seq ?_
  refine rg ?_
  refine pl_x HE3 HH1 (wt0 rfl) (x_assign rfl) rfl rfl fun a_4 HE5 => ?_
  refine wpList_nil ?_
  clear a_2 HE3
  refine nrm ?_
  refine wp_seq ?_
  refine rg ?_
  refine pl_x HE5 HH1 (wt0 rfl) (x_move rfl) rfl rfl fun a_6 HE7 => ?_
  refine pl_x HE7 HH1 (wt0 rfl) (x_nilCheck rfl) rfl rfl fun a_8 HE9 => ?_
  refine pl_x HE9 HH1 (wt0 rfl) (x_fieldAddr fa_55_0 rfl) rfl rfl fun a_10 HE11 => ?_
  refine pl_x HE11 HH1 (wt0 rfl) (x_load1 tv_2 rfl (c_old (hq1 0 _ rfl))) rfl rfl fun a_12 HE13 => ?_
  refine pl_x HE13 HH1 (wt0 rfl) (x_move rfl) rfl rfl fun a_14 HE15 => ?_
  refine pl_x HE15 HH1 (wt0 rfl) (x_len Try.underlying24 rfl) rfl rfl fun a_16 HE17 => ?_
  refine pl fun K_18 hK19 => ?_
  refine st_call HE17 (wt0 rfl) rfl rfl rfl en_108 rfl rfl (spec_l00In a1.1 0 (a0.length : Int) _ ) fun e w' hr => ?_
  obtain ⟨rfl, rfl⟩ := hr
  refine ⟨_, rfl, fun a_20 HE21 => hK19 _ _ ?_⟩
  refine pl_x HE21 HH1 (wt0 rfl) (x_move rfl) rfl rfl fun a_22 HE23 => ?_
  rcases Bool.eq_false_or_eq_true ((withinB a1.1 0 (a0.length : Int))) with hc22 | hc22
  · refine pl_x HE23 HH1 (wtT HE23 rfl rfl rfl hc22) (x_move rfl) rfl rfl fun a_24 HE25 => ?_
    refine pl_x HE25 HH1 (wtT HE25 rfl rfl rfl hc22) (x_nilCheck rfl) rfl rfl fun a_26 HE27 => ?_
    refine pl_x HE27 HH1 (wtT HE27 rfl rfl rfl hc22) (x_fieldAddr fa_55_1 rfl) rfl rfl fun a_28 HE29 => ?_
    refine pl_x HE29 HH1 (wtT HE29 rfl rfl rfl hc22) (x_load1 tv_31 rfl (c_old (hq1 1 _ rfl))) rfl rfl fun a_30 HE31 => ?_
    refine pl_x HE31 HH1 (wtT HE31 rfl rfl rfl hc22) (x_len Try.underlying31 rfl) rfl rfl fun a_32 HE33 => ?_
    refine pl_x HE33 HH1 (wtT HE33 rfl rfl rfl hc22) (x_eql rfl rfl) rfl rfl fun a_34 HE35 => ?_
    refine pl_x HE35 HH1 (wt0 rfl) (x_pickT rfl hc22 rfl) rfl rfl fun a_36 HE37 => ?_
    refine pl_x HE37 HH1 (wt0 rfl) (x_move rfl) rfl rfl fun a_38 HE39 => ?_
    by_cases hc23 : (a1.2.length : Int) = 24
    · refine pl_x HE39 HH1 (wtT HE39 rfl rfl rfl (beq_t hc23)) (x_move rfl) rfl rfl fun a_40 HE41 => ?_
      refine pl_x HE41 HH1 (wtT HE41 rfl rfl rfl (beq_t hc23)) (x_nilCheck rfl) rfl rfl fun a_42 HE43 => ?_
      refine pl_x HE43 HH1 (wtT HE43 rfl rfl rfl (beq_t hc23)) (x_fieldAddr fa_55_1 rfl) rfl rfl fun a_44 HE45 => ?_
      refine pl_x HE45 HH1 (wtT HE45 rfl rfl rfl (beq_t hc23)) (x_load1 tv_31 rfl (c_old (hq1 1 _ rfl))) rfl rfl fun a_46 HE47 => ?_
      refine pl fun K_48 hK49 => ?_
      refine st_call HE47 (wtT HE47 rfl rfl rfl (beq_t hc23)) rfl rfl rfl en_232 rfl rfl (spec_l07Counts _ _ a1.2 _ (HH1.old gz1_1)) fun e w' hr => ?_
      obtain ⟨rfl, rfl⟩ := hr
      refine ⟨_, rfl, fun a_50 HE51 => hK49 _ _ ?_⟩
      refine pl_x HE51 HH1 (wt0 rfl) (x_pickT rfl (beq_t hc23) rfl) rfl rfl fun a_52 HE53 => ?_
      refine pl_x HE53 HH1 (wt0 rfl) (x_assign rfl) rfl rfl fun a_54 HE55 => ?_
      refine wpList_nil ?_
      clear a_4 HE5 a_6 HE7 a_8 HE9 a_10 HE11 a_12 HE13 a_14 HE15 a_16 HE17 a_20 HE21 a_22 HE23 a_24 HE25 a_26 HE27 a_28 HE29 a_30 HE31 a_32 HE33 a_34 HE35 a_36 HE37 a_38 HE39 a_40 HE41 a_42 HE43 a_44 HE45 K_18 hK19 a_46 HE47 a_50 HE51 a_52 HE53 hK49 K_48
      refine nrm ?_
      refine wp_ret ?_
      refine ret1 HE55 rfl (rv_tmp rfl) ?_
      have hF : (storeOf a0 a1) = (counts07 a1.2) := by
        first | rfl | (simp [storeOf, hc22, hc23]; done) | grind [storeOf, counts07]
      exact ⟨by rw [hF] <;> rfl, rfl⟩
    · refine pl_no HE39 (wtF HE39 rfl rfl rfl (beq_f hc23)) rfl rfl fun a_56 HE57 => ?_
      refine pl_no HE57 (wtF HE57 rfl rfl rfl (beq_f hc23)) rfl rfl fun a_58 HE59 => ?_
      refine pl_no HE59 (wtF HE59 rfl rfl rfl (beq_f hc23)) rfl rfl fun a_60 HE61 => ?_
      refine pl_no HE61 (wtF HE61 rfl rfl rfl (beq_f hc23)) rfl rfl fun a_62 HE63 => ?_
      refine pl_no HE63 (wtF HE63 rfl rfl rfl (beq_f hc23)) rfl rfl fun a_64 HE65 => ?_
      refine pl_x HE65 HH1 (wt0 rfl) (x_pickF rfl (beq_f hc23) rfl) rfl rfl fun a_66 HE67 => ?_
      refine pl_x HE67 HH1 (wt0 rfl) (x_assign rfl) rfl rfl fun a_68 HE69 => ?_
      refine wpList_nil ?_
      clear a_4 HE5 a_6 HE7 a_8 HE9 a_10 HE11 a_12 HE13 a_14 HE15 a_16 HE17 a_20 HE21 a_22 HE23 a_24 HE25 a_26 HE27 a_28 HE29 a_30 HE31 a_32 HE33 a_34 HE35 a_36 HE37 a_38 HE39 a_56 HE57 a_58 HE59 a_60 HE61 a_62 HE63 a_64 HE65 a_66 HE67 hK19 K_18
      refine nrm ?_
      refine wp_ret ?_
      refine ret1 HE69 rfl (rv_tmp rfl) ?_
      have hF : (storeOf a0 a1) = false := by
        first | rfl | (simp [storeOf, hc22, hc23]; done) | grind [storeOf, counts07]
      exact ⟨by rw [hF] <;> rfl, rfl⟩
  · refine pl_no HE23 (wtF HE23 rfl rfl rfl hc22) rfl rfl fun a_70 HE71 => ?_
    refine pl_no HE71 (wtF HE71 rfl rfl rfl hc22) rfl rfl fun a_72 HE73 => ?_
    refine pl_no HE73 (wtF HE73 rfl rfl rfl hc22) rfl rfl fun a_74 HE75 => ?_
    refine pl_no HE75 (wtF HE75 rfl rfl rfl hc22) rfl rfl fun a_76 HE77 => ?_
    refine pl_no HE77 (wtF HE77 rfl rfl rfl hc22) rfl rfl fun a_78 HE79 => ?_
    refine pl_no HE79 (wtF HE79 rfl rfl rfl hc22) rfl rfl fun a_80 HE81 => ?_
    refine pl_x HE81 HH1 (wt0 rfl) (x_pickF rfl hc22 rfl) rfl rfl fun a_82 HE83 => ?_
    refine pl_x HE83 HH1 (wt0 rfl) (x_move rfl) rfl rfl fun a_84 HE85 => ?_
    refine pl_no HE85 (wtF HE85 rfl rfl rfl rfl) rfl rfl fun a_86 HE87 => ?_
    refine pl_no HE87 (wtF HE87 rfl rfl rfl rfl) rfl rfl fun a_88 HE89 => ?_
    refine pl_no HE89 (wtF HE89 rfl rfl rfl rfl) rfl rfl fun a_90 HE91 => ?_
    refine pl_no HE91 (wtF HE91 rfl rfl rfl rfl) rfl rfl fun a_92 HE93 => ?_
    refine pl_no HE93 (wtF HE93 rfl rfl rfl rfl) rfl rfl fun a_94 HE95 => ?_
    refine pl_x HE95 HH1 (wt0 rfl) (x_pickF rfl rfl rfl) rfl rfl fun a_96 HE97 => ?_
    refine pl_x HE97 HH1 (wt0 rfl) (x_assign rfl) rfl rfl fun a_98 HE99 => ?_
    refine wpList_nil ?_
    clear a_4 HE5 a_6 HE7 a_8 HE9 a_10 HE11 a_12 HE13 a_14 HE15 a_16 HE17 a_20 HE21 a_22 HE23 a_70 HE71 a_72 HE73 a_74 HE75 a_76 HE77 a_78 HE79 a_80 HE81 a_82 HE83 a_84 HE85 a_86 HE87 a_88 HE89 a_90 HE91 a_92 HE93 a_94 HE95 a_96 HE97 hK19 K_18
    refine nrm ?_
    refine wp_ret ?_
    refine ret1 HE99 rfl (rv_tmp rfl) ?_
    have hF : (storeOf a0 a1) = false := by
      first | rfl | (simp [storeOf, hc22]; done) | grind [storeOf, counts07]
    exact ⟨by rw [hF] <;> rfl, rfl⟩

set_option maxRecDepth 100000 in
set_option maxHeartbeats 4000000 in
theorem spec_l07Halts (A0 : Option Addr) (c0 : Nat) (a0 : (List tInstr)) (p1 o1 : Nat) (es1 : List Value) (a1 : tStore) (w : World) (h0 : Sl eInstr w (Old w) A0 c0 a0) (h1 : eStore.R w (Old w) es1 a1) (hq1 : ∀ j v, es1[j]? = some v → w.cell? ⟨p1, o1 + j, none⟩ = some v) :
    Calls Try.prog 109 #[.slice A0 a0.length c0, .pointer (some ⟨p1, o1, none⟩)] w fun e w' => e = .returned (.bool (haltsS a0 a1)) ∧ w = w' := by
  have l0 := h0.len
  have H1 := h1
  obtain ⟨Az1_1, cz1_1, rfl, gz1_0, gz1_1⟩ := shape_Store h1
  have jz1_0 := gz1_0; unfold I64 at jz1_0
  have lz1_1 := gz1_1.len
  have HH1 := Held.start Nob w
  refine enter (n := 12) Try.func109 rfl rfl rfl fun a_2 HE3 => ?_
  refine wp_seq ?_
  refine rg ?_
  refine pl_x HE3 HH1 (wt0 rfl) (x_assign rfl) rfl rfl fun a_4 HE5 => ?_
  refine wpList_nil ?_
  clear a_2 HE3
  refine nrm ?_
  refine wp_seq ?_
  refine rg ?_
  refine pl_x HE5 HH1 (wt0 rfl) (x_move rfl) rfl rfl fun a_6 HE7 => ?_
  refine pl_x HE7 HH1 (wt0 rfl) (x_nilCheck rfl) rfl rfl fun a_8 HE9 => ?_
  refine pl_x HE9 HH1 (wt0 rfl) (x_fieldAddr fa_55_0 rfl) rfl rfl fun a_10 HE11 => ?_
  refine pl_x HE11 HH1 (wt0 rfl) (x_load1 tv_2 rfl (c_old (hq1 0 _ rfl))) rfl rfl fun a_12 HE13 => ?_
  refine pl_x HE13 HH1 (wt0 rfl) (x_move rfl) rfl rfl fun a_14 HE15 => ?_
  refine pl_x HE15 HH1 (wt0 rfl) (x_len Try.underlying24 rfl) rfl rfl fun a_16 HE17 => ?_
  refine pl_x HE17 HH1 (wt0 rfl) (x_eql rfl rfl) rfl rfl fun a_18 HE19 => ?_
  refine pl_x HE19 HH1 (wt0 rfl) (x_assign rfl) rfl rfl fun a_20 HE21 => ?_
  refine wpList_nil ?_
  clear a_4 HE5 a_6 HE7 a_8 HE9 a_10 HE11 a_12 HE13 a_14 HE15 a_16 HE17 a_18 HE19
  refine nrm ?_
  refine wp_ret ?_
  refine ret1 HE21 rfl (rv_tmp rfl) ?_
  have hF : (haltsS a0 a1) = (a1.1 == (a0.length : Int)) := by
    first | rfl | (simp [haltsS]; done) | (simp [haltsS]; omega) | grind [haltsS]
  exact ⟨by rw [hF] <;> rfl, rfl⟩

set_option maxRecDepth 100000 in
set_option maxHeartbeats 4000000 in
theorem spec_l07Ask (A0 : Option Addr) (c0 : Nat) (a0 : (List tInstr)) (p1 o1 : Nat) (es1 : List Value) (a1 : tStore) (w : World) (h0 : Sl eInstr w (Old w) A0 c0 a0) (h1 : eStore.R w (Old w) es1 a1) (hq1 : ∀ j v, es1[j]? = some v → w.cell? ⟨p1, o1 + j, none⟩ = some v) :
    Calls Try.prog 107 #[.slice A0 a0.length c0, .pointer (some ⟨p1, o1, none⟩)] w fun e w' => e = .returned (.int .i64 (askS a0 a1)) ∧ Below w.heap.size w w' := by
  have l0 := h0.len
  have H1 := h1
  obtain ⟨Az1_1, cz1_1, rfl, gz1_0, gz1_1⟩ := shape_Store h1
  have jz1_0 := gz1_0; unfold I64 at jz1_0
  have lz1_1 := gz1_1.len
  have HH1 := Held.start Nob w
  refine enter (n := 14) Try.func107 rfl rfl rfl fun a_2 HE3 => ?_
  refine wp_seq ?_
  refine rg ?_
  refine pl_x HE3 HH1 (wt0 rfl) (x_assign rfl) rfl rfl fun a_4 HE5 => ?_
  refine wpList_nil ?_
  clear a_2 HE3
  refine nrm ?_
  refine wp_seq ?_
  refine wp_seq ?_
  refine rg ?_
  refine pl_x HE5 HH1 (wt0 rfl) (x_move rfl) rfl rfl fun a_6 HE7 => ?_
  refine pl fun K_8 hK9 => ?_
  refine st_call HE7 (wt0 rfl) rfl rfl rfl en_81 rfl rfl (spec_l07Is _ _ a0 _ (HH1.old h0)) fun e w' hr => ?_
  obtain ⟨rfl, hbr21⟩ := hr
  have HH10 := HH1.on hbr21
  refine ⟨_, rfl, fun a_11 HE12 => hK9 _ _ ?_⟩
  refine pl_x HE12 HH10 (wt0 rfl) (x_not rfl) rfl rfl fun a_13 HE14 => ?_
  refine pl_x HE14 HH10 (wt0 rfl) (x_move rfl) rfl rfl fun a_15 HE16 => ?_
  rcases Bool.eq_false_or_eq_true ((validProg a0)) with hc22 | hc22
  · refine pl_x HE16 HH10 (wtT HE16 rfl rfl rfl (not_f hc22)) (x_move rfl) rfl rfl fun a_17 HE18 => ?_
    refine pl_x HE18 HH10 (wtT HE18 rfl rfl rfl (not_f hc22)) (x_move rfl) rfl rfl fun a_19 HE20 => ?_
    refine pl fun K_21 hK22 => ?_
    refine st_call HE20 (wtT HE20 rfl rfl rfl (not_f hc22)) rfl rfl rfl en_189 rfl rfl (spec_l07GoodP _ _ a0 _ _ _ a1 _ (HH10.old h0) (HH10.oldR H1) (c_oldN hq1 _ HH10)) fun e w' hr => ?_
    obtain ⟨rfl, rfl⟩ := hr
    refine ⟨_, rfl, fun a_23 HE24 => hK22 _ _ ?_⟩
    refine pl_x HE24 HH10 (wtT HE24 rfl rfl rfl (not_f hc22)) (x_not rfl) rfl rfl fun a_25 HE26 => ?_
    refine pl_x HE26 HH10 (wt0 rfl) (x_pickF rfl (not_f hc22) rfl) rfl rfl fun a_27 HE28 => ?_
    refine wpList_nil ?_
    clear a_4 HE5 HH1 a_6 HE7 a_11 HE12 a_13 HE14 a_15 HE16 a_17 HE18 K_8 hK9 a_19 HE20 a_23 HE24 a_25 HE26 hK22 K_21
    refine nrm ?_
    refine cnd_nb HE28 rfl (fun hc24 => ?_) (fun hc24 => ?_)
    · refine wp_seq ?_
      refine rg ?_
      refine pl_x HE28 HH10 (wt0 rfl) (x_assign rfl) rfl rfl fun a_29 HE30 => ?_
      refine wpList_nil ?_
      clear a_27 HE28
      refine nrm ?_
      refine wp_ret ?_
      refine (thn_ret ?_)
      refine ret1 HE30 rfl (rv_tmp rfl) ?_
      have hF : (askS a0 a1) = 1 := by
        first | rfl | (simp [askS, validStore, hc22, hc24]; done) | grind [askS, validStore]
      exact ⟨by rw [hF] <;> rfl, HH10.below⟩
    · refine wp_skip ?_
      refine nrm ?_
      refine wp_seq ?_
      refine rg ?_
      refine pl_x HE28 HH10 (wt0 rfl) (x_assign rfl) rfl rfl fun a_31 HE32 => ?_
      refine wpList_nil ?_
      clear a_27 HE28
      refine nrm ?_
      refine wp_ret ?_
      refine ret1 HE32 rfl (rv_tmp rfl) ?_
      have hF : (askS a0 a1) = 0 := by
        first | rfl | (simp [askS, validStore, hc22, hc24]; done) | grind [askS, validStore]
      exact ⟨by rw [hF] <;> rfl, HH10.below⟩
  · refine pl_no HE16 (wtF HE16 rfl rfl rfl (not_t hc22)) rfl rfl fun a_33 HE34 => ?_
    refine pl_no HE34 (wtF HE34 rfl rfl rfl (not_t hc22)) rfl rfl fun a_35 HE36 => ?_
    refine pl_no HE36 (wtF HE36 rfl rfl rfl (not_t hc22)) rfl rfl fun a_37 HE38 => ?_
    refine pl_no HE38 (wtF HE38 rfl rfl rfl (not_t hc22)) rfl rfl fun a_39 HE40 => ?_
    refine pl_x HE40 HH10 (wt0 rfl) (x_pickT rfl (not_t hc22) rfl) rfl rfl fun a_41 HE42 => ?_
    refine wpList_nil ?_
    clear a_4 HE5 HH1 a_6 HE7 a_11 HE12 a_13 HE14 a_15 HE16 a_33 HE34 a_35 HE36 a_37 HE38 a_39 HE40 hK9 K_8
    refine nrm ?_
    refine cndT HE42 rfl rfl ?_
    refine wp_seq ?_
    refine rg ?_
    refine pl_x HE42 HH10 (wt0 rfl) (x_assign rfl) rfl rfl fun a_43 HE44 => ?_
    refine wpList_nil ?_
    clear a_41 HE42
    refine nrm ?_
    refine wp_ret ?_
    refine (thn_ret ?_)
    refine ret1 HE44 rfl (rv_tmp rfl) ?_
    have hF : (askS a0 a1) = 1 := by
      first | rfl | (simp [askS, validStore, hc22]; done) | grind [askS, validStore]
    exact ⟨by rw [hF] <;> rfl, HH10.below⟩

set_option maxRecDepth 100000 in
set_option maxHeartbeats 4000000 in
theorem spec_l07Step (A0 : Option Addr) (c0 : Nat) (a0 : (List tInstr)) (p1 o1 : Nat) (es1 : List Value) (a1 : tStore) (w : World) (h0 : Sl eInstr w (Old w) A0 c0 a0) (h1 : eStore.R w (Old w) es1 a1) (hq1 : ∀ j v, es1[j]? = some v → w.cell? ⟨p1, o1 + j, none⟩ = some v) (s0 : validProg a0 = true) (s1 : storeOf a0 a1 = true) (s2 : a1.1 < (a0.length : Int)) :
    Calls Try.prog 110 #[.slice A0 a0.length c0, .pointer (some ⟨p1, o1, none⟩)] w fun e w' => ∃ (es0' : List Value), e = .returned (.tuple #[.agg es0'.toArray, .bool (stepS2 a0 a1).2]) ∧ eStore.O w' (Fr w w') es0' (stepS2 a0 a1).1 ∧ Below w.heap.size w w' := by
  have l0 := h0.len
  have H1 := h1
  obtain ⟨Az1_1, cz1_1, rfl, gz1_0, gz1_1⟩ := shape_Store h1
  have jz1_0 := gz1_0; unfold I64 at jz1_0
  have lz1_1 := gz1_1.len
  obtain ⟨v0, v1, v2, v3⟩ := storeOf_facts s1
  have HH1 := Held.start Nob w
  refine enter (n := 62) Try.func110 rfl rfl rfl fun a_2 HE3 => ?_
  refine wp_seq ?_
  refine rg ?_
  refine pl fun K_4 hK5 => ?_
  refine st_alloc HE3 HH1 tv_55 (wt0 rfl) rfl fun q21 a_6 w' HE7 HH8 => hK5 _ _ ?_
  refine pl_x HE7 HH8 (wt0 rfl) (x_assign rfl) rfl rfl fun a_9 HE10 => ?_
  refine wpList_nil ?_
  clear a_2 HE3 HH1 a_6 HE7 hK5 K_4
  refine nrm ?_
  refine wp_seq ?_
  refine rg ?_
  refine pl_x HE10 HH8 (wt0 rfl) (x_move rfl) rfl rfl fun a_11 HE12 => ?_
  refine pl_x HE12 HH8 (wt0 rfl) (x_move rfl) rfl rfl fun a_13 HE14 => ?_
  refine pl_x HE14 HH8 (wt0 rfl) (x_nilCheck rfl) rfl rfl fun a_15 HE16 => ?_
  refine pl_x HE16 HH8 (wt0 rfl) (x_fieldAddr fa_55_0 rfl) rfl rfl fun a_17 HE18 => ?_
  refine pl_x HE18 HH8 (wt0 rfl) (x_load1 tv_2 rfl (c_old (hq1 0 _ rfl))) rfl rfl fun a_19 HE20 => ?_
  have ke22 : (a1.1).toNat < a0.length := by omega
  obtain ⟨be22, fe22, ese22, Ae22, Re22, De22⟩ := el_old h0 ke22
  obtain ⟨e22, xe22⟩ : ∃ x_, x_ = a0[(a1.1).toNat] := ⟨_, rfl⟩
  rw [← xe22] at Re22
  have Qe22 := Re22
  obtain ⟨rfl, ge22_0, ge22_1, ge22_2, ge22_3⟩ := shape_Instr Re22
  have je22_0 := ge22_0; unfold I64 at je22_0
  have je22_1 := ge22_1; unfold I64 at je22_1
  have je22_2 := ge22_2; unfold I64 at je22_2
  have je22_3 := ge22_3; unfold I64 at je22_3
  obtain ⟨re221, re222⟩ := validProg_reg s0 e22 (by rw [xe22]; exact List.getElem_mem _)
  refine pl_x HE20 HH8 (wt0 rfl) (x_indexAddr ts_24 rfl rfl Ae22 (by omega) ke22) rfl rfl fun a_21 HE22 => ?_
  refine pl_x HE22 HH8 (wt0 rfl) (x_loadN (cs := [.int .i64 (e22.1), .int .i64 (e22.2.1), .int .i64 (e22.2.2.1), .int .i64 (e22.2.2.2)]) tv_116 rfl rfl (c_oldN De22)) rfl rfl fun a_23 HE24 => ?_
  refine pl fun K_25 hK26 => ?_
  refine st_alloc HE24 HH8 tv_116 (wt0 rfl) rfl fun q23 a_27 w' HE28 HH29 => hK26 _ _ ?_
  refine pl fun K_30 hK31 => ?_
  refine st_store (vs := [.int .i64 (e22.1), .int .i64 (e22.2.1), .int .i64 (e22.2.2.1), .int .i64 (e22.2.2.2)]) 0 HE28 HH29 tv_116 rfl rfl rfl rfl rfl rfl (by simp [Value.oneCell']) (wt0 rfl) fun w' HH32 => hK31 _ _ ?_
  refine wpList_nil ?_
  clear a_9 HE10 a_11 HE12 a_13 HE14 a_15 HE16 a_17 HE18 a_19 HE20 a_21 HE22 a_23 HE24 HH8 K_25 hK26 HH29 hK31 K_30
  refine nrm ?_
  refine wp_seq ?_
  refine wp_join (fun a w' => ∃ (q25 : Nat), ∃ (Ar24_0 : Option Addr), ∃ (cr24_0 : Nat), ∃ (Sr24 : Nat → Prop), Env 62 [(4, .pointer (some ⟨q21, 0, none⟩)), (6, .pointer (some ⟨q23, 0, none⟩)), (7, .pointer (some ⟨q25, 0, none⟩))] a ∧ Held Nob w [rBlk q25 55 [.int .i64 (e22.2.2.1), .slice Ar24_0 (a1.2.length) cr24_0], rSo eInt Sr24 Ar24_0 cr24_0 a1.2, rBlk q23 116 [.int .i64 (e22.1), .int .i64 (e22.2.1), .int .i64 (e22.2.2.1), .int .i64 (e22.2.2.2)], rBlk q21 55 [.int .i64 (0), .slice none (0) 0]] w') ?_ ?_
  · refine dr_start (Held Nob w [rBlk q23 116 [.int .i64 (e22.1), .int .i64 (e22.2.1), .int .i64 (e22.2.2.1), .int .i64 (e22.2.2.2)], rBlk q21 55 [.int .i64 (0), .slice none (0) 0]]) 10 #[false, false, false, false, false, false, false, false, false, false] hmix rfl rfl HH32 (fun _ h => h.sel [0, 1] (by decide) rfl) fun w' HH33 => ?_
    have HS34 := HH33
    refine dr_take (i := 0) (ls' := #[true, false, false, false, false, false, false, false, false, false]) HE28 HS34 rfl (by kernel_rfl) (by kernel_rfl) (by kernel_rfl) (fun _ _ _ h => h) rfl (wt0 rfl) (x_fieldAddr fa_116_2 rfl) rfl rfl fun a_35 HE36 => ?_
    refine dr_take (i := 1) (ls' := #[true, true, false, false, false, false, false, false, false, false]) HE36 HS34 rfl (by kernel_rfl) (by kernel_rfl) (by kernel_rfl) (fun _ _ _ h => h) rfl (wt0 rfl) (x_load1 tv_2 rfl (c_blk 0 rfl rfl)) rfl rfl fun a_37 HE38 => ?_
    refine dr_take (i := 2) (ls' := #[true, true, true, false, false, false, false, false, false, false]) HE38 HS34 rfl (by kernel_rfl) (by kernel_rfl) (by kernel_rfl) (fun _ _ _ h => h) rfl (wt0 rfl) (x_move rfl) rfl rfl fun a_39 HE40 => ?_
    refine dr_take (i := 3) (ls' := #[true, true, true, true, false, false, false, false, false, false]) HE40 HS34 rfl (by kernel_rfl) (by kernel_rfl) (by kernel_rfl) (fun _ _ _ h => h) rfl (wt0 rfl) (x_nilCheck rfl) rfl rfl fun a_41 HE42 => ?_
    refine dr_take (i := 4) (ls' := #[true, true, true, true, true, false, false, false, false, false]) HE42 HS34 rfl (by kernel_rfl) (by kernel_rfl) (by kernel_rfl) (fun _ _ _ h => h) rfl (wt0 rfl) (x_fieldAddr fa_55_1 rfl) rfl rfl fun a_43 HE44 => ?_
    refine dr_take (i := 5) (ls' := #[true, true, true, true, true, true, false, false, false, false]) HE44 HS34 rfl (by kernel_rfl) (by kernel_rfl) (by kernel_rfl) (fun _ _ _ h => h) rfl (wt0 rfl) (x_load1 tv_31 rfl (c_old (hq1 1 _ rfl))) rfl rfl fun a_45 HE46 => ?_
    refine dr_two (i := 6) (j := 8) (ls' := #[true, true, true, true, true, true, true, false, false, false]) (ls'' := #[true, true, true, true, true, true, false, false, true, false]) rfl rfl (by kernel_rfl) rfl rfl (fun K_47 hK48 => ?_) (fun K_47 hK48 => ?_)
    · refine st_call HE46 (wt0 rfl) rfl rfl rfl en_100 rfl rfl (spec_l00Own _ _ a1.2 _ (HH33.old gz1_1) (by omega)) fun e w' hr => ?_
      obtain ⟨Ar24_0, cr24_0, rfl, hor24_0, hbr24⟩ := hr
      obtain ⟨Sr24, HH49⟩ := HH33.newS hbr24 hor24_0
      refine ⟨_, rfl, fun a_50 HE51 => hK48 _ _ (by exact HH49.sel [1, 2] (by decide) rfl) ?_⟩
      have HS52 := HH49.sel [1, 2] (by decide) rfl
      refine dr_take (i := 7) (ls' := #[true, true, true, true, true, true, true, true, false, false]) HE51 HS52 rfl (by kernel_rfl) (by kernel_rfl) (by kernel_rfl) (fun _ _ _ h => h) rfl (wt0 rfl) (show XS _ _ _ _ (.agg #[.int .i64 (e22.2.2.1), .slice Ar24_0 (a1.2.length) cr24_0]) from x_build (vs := [(0, .int .i64 (e22.2.2.1)), (1, .slice Ar24_0 (a1.2.length) cr24_0)]) tb_55 rfl (by simp [Value.oneCell'])) rfl rfl fun a_53 HE54 => ?_
      refine dr_one (i := 8) (ls' := #[true, true, true, true, true, true, true, true, true, false]) rfl (by kernel_rfl) rfl fun K_55 hK56 => ?_
      refine st_alloc HE54 HH49 tv_55 (wt0 rfl) rfl fun q25 a_57 w' HE58 HH59 => hK56 _ _ (by exact HH59.sel [2, 3] (by decide) rfl) ?_
      have HS60 := HH59.sel [2, 3] (by decide) rfl
      refine dr_one (i := 9) (ls' := #[true, true, true, true, true, true, true, true, true, true]) rfl (by kernel_rfl) rfl fun K_61 hK62 => ?_
      refine st_store (vs := [.int .i64 (e22.2.2.1), .slice Ar24_0 (a1.2.length) cr24_0]) 0 HE58 HH59 tv_55 rfl rfl rfl rfl rfl rfl (by simp [Value.oneCell']) (wt0 rfl) fun w' HH63 => hK62 _ _ (by exact HH63.sel [2, 3] (by decide) rfl) ?_
      have HS64 := HH63.sel [2, 3] (by decide) rfl
      refine dr_done (by kernel_rfl) ?_
      clear HH32 a_27 HE28 a_35 HE36 a_37 HE38 a_39 HE40 a_41 HE42 a_43 HE44 HH33 a_45 HE46 HS34 a_50 HE51 K_47 hK48 a_53 HE54 HH49 HS52 K_55 hK56 HH59 HS60 hK62 K_61
      exact nrm ⟨_, _, _, _, HE58.sub ⟨rfl, rfl, rfl, trivial⟩, HH63.sel [0, 1, 2, 3] (by decide) rfl⟩
    · refine st_alloc HE46 HH33 tv_55 (wt0 rfl) rfl fun q26 a_65 w' HE66 HH67 => hK48 _ _ (by exact HH67.sel [1, 2] (by decide) rfl) ?_
      have HS68 := HH67.sel [1, 2] (by decide) rfl
      refine dr_one (i := 6) (ls' := #[true, true, true, true, true, true, true, false, true, false]) rfl (by kernel_rfl) rfl fun K_69 hK70 => ?_
      refine st_call HE66 (wt0 rfl) rfl rfl rfl en_100 rfl rfl (spec_l00Own _ _ a1.2 _ (HH67.old gz1_1) (by omega)) fun e w' hr => ?_
      obtain ⟨Ar27_0, cr27_0, rfl, hor27_0, hbr27⟩ := hr
      obtain ⟨Sr27, HH71⟩ := HH67.newS hbr27 hor27_0
      refine ⟨_, rfl, fun a_72 HE73 => hK70 _ _ (by exact HH71.sel [2, 3] (by decide) rfl) ?_⟩
      have HS74 := HH71.sel [2, 3] (by decide) rfl
      refine dr_take (i := 7) (ls' := #[true, true, true, true, true, true, true, true, true, false]) HE73 HS74 rfl (by kernel_rfl) (by kernel_rfl) (by kernel_rfl) (fun _ _ _ h => h) rfl (wt0 rfl) (show XS _ _ _ _ (.agg #[.int .i64 (e22.2.2.1), .slice Ar27_0 (a1.2.length) cr27_0]) from x_build (vs := [(0, .int .i64 (e22.2.2.1)), (1, .slice Ar27_0 (a1.2.length) cr27_0)]) tb_55 rfl (by simp [Value.oneCell'])) rfl rfl fun a_75 HE76 => ?_
      refine dr_one (i := 9) (ls' := #[true, true, true, true, true, true, true, true, true, true]) rfl (by kernel_rfl) rfl fun K_77 hK78 => ?_
      refine st_store (vs := [.int .i64 (e22.2.2.1), .slice Ar27_0 (a1.2.length) cr27_0]) 1 HE76 HH71 tv_55 rfl rfl rfl rfl rfl rfl (by simp [Value.oneCell']) (wt0 rfl) fun w' HH79 => hK78 _ _ (by exact HH79.sel [2, 3] (by decide) rfl) ?_
      have HS80 := HH79.sel [2, 3] (by decide) rfl
      refine dr_done (by kernel_rfl) ?_
      clear HH32 a_27 HE28 a_35 HE36 a_37 HE38 a_39 HE40 a_41 HE42 a_43 HE44 a_45 HE46 HH33 HS34 K_47 hK48 HH67 a_65 HE66 HS68 a_72 HE73 K_69 hK70 HH71 HS74 hK78 K_77
      exact nrm ⟨_, _, _, _, HE76.sub ⟨rfl, rfl, rfl, trivial⟩, HH79.sel [1, 0, 2, 3] (by decide) rfl⟩
  · rintro a_81 w' ⟨q25, Ar24_0, cr24_0, Sr24, HE82, HH83⟩
    refine nrm ?_
    refine wp_seq ?_
    refine wp_seq ?_
    refine rg ?_
    refine pl_x HE82 HH83 (wt0 rfl) (x_fieldAddr fa_116_0 rfl) rfl rfl fun a_84 HE85 => ?_
    refine pl_x HE85 HH83 (wt0 rfl) (x_load1 tv_2 rfl (c_blk 2 rfl rfl)) rfl rfl fun a_86 HE87 => ?_
    refine pl_x HE87 HH83 (wt0 rfl) (x_eql rfl rfl) rfl rfl fun a_88 HE89 => ?_
    refine wpList_nil ?_
    clear a_27 HE28 HH32 a_81 HE82 a_84 HE85 a_86 HE87
    refine nrm ?_
    refine cnd_e HE89 rfl (fun hc28 => ?_) (fun hc28 => ?_)
    · refine wp_seq ?_
      refine rg ?_
      refine pl_x HE89 HH83 (wt0 rfl) (x_fieldAddr fa_55_1 rfl) rfl rfl fun a_90 HE91 => ?_
      refine pl_x HE91 HH83 (wt0 rfl) (x_load1 tv_31 rfl (c_blk 0 rfl rfl)) rfl rfl fun a_92 HE93 => ?_
      refine pl_x HE93 HH83 (wt0 rfl) (x_fieldAddr fa_116_1 rfl) rfl rfl fun a_94 HE95 => ?_
      refine pl_x HE95 HH83 (wt0 rfl) (x_load1 tv_2 rfl (c_blk 2 rfl rfl)) rfl rfl fun a_96 HE97 => ?_
      have ke29 : (e22.2.1).toNat < a1.2.length := by omega
      obtain ⟨be29, fe29, rfl⟩ := el_own HH83 (i := 1) rfl ke29
      refine pl_x HE97 HH83 (wt0 rfl) (x_indexAddr ts_31 rfl rfl rfl (by omega) ke29) rfl rfl fun a_98 HE99 => ?_
      obtain ⟨y30, xy30⟩ : ∃ y_, y_ = a1.2[(e22.2.1).toNat]'(by first | exact ke29 | (simp only [List.length_set]; exact ke29) | omega | (simp only [List.length_set]; omega) | (simp; omega)) := ⟨_, rfl⟩
      have iy30 : I64 y30 := by rw [xy30]; exact i_ownI HH83 1 rfl _
      have jy30 := iy30; unfold I64 at jy30
      have by30 := allW_mem v3 y30 (by rw [xy30]; exact List.getElem_mem _)
      refine pl_x HE99 HH83 (wt0 rfl) (x_load1 tv_2 rfl (c_ownV 1 rfl (by first | exact ke29 | (simp only [List.length_set]; exact ke29) | omega | (simp only [List.length_set]; omega) | (simp; omega)) xy30.symm)) rfl rfl fun a_100 HE101 => ?_
      refine pl_x HE101 HH83 (wt0 rfl) (x_add rfl rfl (by exact ⟨by omega, by omega⟩)) rfl rfl fun a_102 HE103 => ?_
      have ke31 : (e22.2.1).toNat < a1.2.length := by omega
      refine pl_x HE103 HH83 (wt0 rfl) (x_indexAddr ts_31 rfl rfl rfl (by omega) ke31) rfl rfl fun a_104 HE105 => ?_
      refine pl fun K_106 hK107 => ?_
      refine st_storeI 1 HE105 HH83 tv_2 rfl rfl rfl (by first | exact ke31 | (simp only [List.length_set]; exact ke31) | omega | (simp only [List.length_set]; omega) | (simp; omega)) (by exact ⟨by omega, by omega⟩) (wt0 rfl) fun w' HH108 => hK107 _ _ ?_
      refine wpList_nil ?_
      clear a_88 HE89 a_90 HE91 a_92 HE93 a_94 HE95 a_96 HE97 a_98 HE99 a_100 HE101 a_102 HE103 HH83 hK107 K_106
      refine nrm ?_
      refine wp_seq ?_
      refine dr_start (Held Nob w [rBlk q25 55 [.int .i64 (e22.2.2.1), .slice (some ⟨be29, fe29, none⟩) (a1.2.length) cr24_0], rSo eInt Sr24 (some ⟨be29, fe29, none⟩) cr24_0 (a1.2.set ((e22.2.1).toNat) (y30 + 1)), rBlk q23 116 [.int .i64 (e22.1), .int .i64 (e22.2.1), .int .i64 (e22.2.2.1), .int .i64 (e22.2.2.2)]]) 10 #[false, false, false, false, false, false, false, false, false, false] hmix rfl rfl HH108 (fun _ h => h.sel [0, 1, 2] (by decide) rfl) fun w' HH109 => ?_
      have HS110 := HH109.sel [0, 1, 2] (by decide) rfl
      refine dr_take (i := 0) (ls' := #[true, false, false, false, false, false, false, false, false, false]) HE105 HS110 rfl (by kernel_rfl) (by kernel_rfl) (by kernel_rfl) (fun _ _ _ h => h) rfl (wt0 rfl) (x_loadN (cs := [.int .i64 (e22.2.2.1), .slice (some ⟨be29, fe29, none⟩) (a1.2.length) cr24_0]) tv_55 rfl rfl (c_blkN 0 rfl)) rfl rfl fun a_111 HE112 => ?_
      refine dr_take (i := 1) (ls' := #[true, true, false, false, false, false, false, false, false, false]) HE112 HS110 rfl (by kernel_rfl) (by kernel_rfl) (by kernel_rfl) (fun _ _ _ h => h) rfl (wt0 rfl) (x_fieldAddr fa_55_1 rfl) rfl rfl fun a_113 HE114 => ?_
      refine dr_take (i := 2) (ls' := #[true, true, true, false, false, false, false, false, false, false]) HE114 HS110 rfl (by kernel_rfl) (by kernel_rfl) (by kernel_rfl) (fun _ _ _ h => h) rfl (wt0 rfl) (x_load1 tv_31 rfl (c_blk 0 rfl rfl)) rfl rfl fun a_115 HE116 => ?_
      refine dr_take (i := 3) (ls' := #[true, true, true, true, false, false, false, false, false, false]) HE116 HS110 rfl (by kernel_rfl) (by kernel_rfl) (by kernel_rfl) (fun _ _ _ h => h) rfl (wt0 rfl) (x_fieldAddr fa_116_1 rfl) rfl rfl fun a_117 HE118 => ?_
      refine dr_take (i := 4) (ls' := #[true, true, true, true, true, false, false, false, false, false]) HE118 HS110 rfl (by kernel_rfl) (by kernel_rfl) (by kernel_rfl) (fun _ _ _ h => h) rfl (wt0 rfl) (x_load1 tv_2 rfl (c_blk 2 rfl rfl)) rfl rfl fun a_119 HE120 => ?_
      have ke32 : (e22.2.1).toNat < a1.2.length := by omega
      refine dr_take (i := 5) (ls' := #[true, true, true, true, true, true, false, false, false, false]) HE120 HS110 rfl (by kernel_rfl) (by kernel_rfl) (by kernel_rfl) (fun _ _ _ h => h) rfl (wt0 rfl) (x_indexAddr ts_31 rfl rfl rfl (by omega) ke32) rfl rfl fun a_121 HE122 => ?_
      refine dr_take (i := 6) (ls' := #[true, true, true, true, true, true, true, false, false, false]) HE122 HS110 rfl (by kernel_rfl) (by kernel_rfl) (by kernel_rfl) (fun _ _ _ h => h) rfl (wt0 rfl) (x_load1 tv_2 rfl (c_ownV (y := (y30 + 1)) 1 rfl (by first | exact ke32 | (simp only [List.length_set]; exact ke32) | omega | (simp only [List.length_set]; omega) | (simp; omega)) (by simp))) rfl rfl fun a_123 HE124 => ?_
      refine dr_take (i := 7) (ls' := #[true, true, true, true, true, true, true, true, false, false]) HE124 HS110 rfl (by kernel_rfl) (by kernel_rfl) (by kernel_rfl) (fun _ _ _ h => h) rfl (wt0 rfl) (x_leq rfl rfl) rfl rfl fun a_125 HE126 => ?_
      refine dr_one (i := 8) (ls' := #[true, true, true, true, true, true, true, true, true, false]) rfl (by kernel_rfl) rfl fun K_127 hK128 => ?_
      refine st_store (vs := [.int .i64 (e22.2.2.1), .slice (some ⟨be29, fe29, none⟩) (a1.2.length) cr24_0]) 3 HE126 HH109 tv_55 rfl rfl rfl rfl rfl rfl (by simp [Value.oneCell']) (wt0 rfl) fun w' HH129 => hK128 _ _ (by exact HH129.sel [0, 1, 2] (by decide) rfl) ?_
      have HS130 := HH129.sel [0, 1, 2] (by decide) rfl
      refine dr_take (i := 9) (ls' := #[true, true, true, true, true, true, true, true, true, true]) HE126 HS130 rfl (by kernel_rfl) (by kernel_rfl) (by kernel_rfl) (fun _ _ _ h => h) rfl (wt0 rfl) (x_assign rfl) rfl rfl fun a_131 HE132 => ?_
      refine dr_done (by kernel_rfl) ?_
      clear HH108 a_104 HE105 a_111 HE112 a_113 HE114 a_115 HE116 a_117 HE118 a_119 HE120 a_121 HE122 a_123 HE124 HH109 HS110 a_125 HE126 hK128 K_127
      refine nrm ?_
      refine wp_ret ?_
      refine (thn_ret ?_)
      refine ret2 HE132 rfl (rv_cell rfl (tv_55.loadN (cs := [.int .i64 (e22.2.2.1), .slice (some ⟨be29, fe29, none⟩) (a1.2.length) cr24_0]) rfl (c_blkN 3 rfl _ HH129))) (rv_tmp rfl) ?_
      have HH133 := HH129.sel [1, 0, 2, 3] (by decide) rfl
      have HH134 := HH133.relen (n := a1.2.length) (by first | exact mkL_len _ _ _ _ | (simp; done) | (simp; omega))
      have HH135 := HH134.pairF (E := eInt) (c1 := [.int .i64 (e22.2.2.1)]) (x := e22.2.2.1) (oI (by exact ⟨by omega, by omega⟩))
      obtain ⟨S33, HH136⟩ : ∃ S, Held Nob w (rO eStore S [.int .i64 (e22.2.2.1), .slice (some ⟨be29, fe29, none⟩) (a1.2.length) cr24_0] (e22.2.2.1, (a1.2.set ((e22.2.1).toNat) (y30 + 1))) :: _) _ := ⟨_, HH135⟩
      have hF : (stepS2 a0 a1) = ((e22.2.2.1, (a1.2.set ((e22.2.1).toNat) (y30 + 1))), decide ((y30 + 1) ≤ 1000000)) := by
        grind [stepS2, stepS]
      exact ⟨_, by rw [hF] <;> rfl, by rw [hF]; exact (HH136.o (i := 0) rfl), HH136.below⟩
    · refine wp_skip ?_
      refine nrm ?_
      refine wp_seq ?_
      refine wp_seq ?_
      refine rg ?_
      refine pl_x HE89 HH83 (wt0 rfl) (x_fieldAddr fa_55_1 rfl) rfl rfl fun a_137 HE138 => ?_
      refine pl_x HE138 HH83 (wt0 rfl) (x_load1 tv_31 rfl (c_blk 0 rfl rfl)) rfl rfl fun a_139 HE140 => ?_
      refine pl_x HE140 HH83 (wt0 rfl) (x_fieldAddr fa_116_1 rfl) rfl rfl fun a_141 HE142 => ?_
      refine pl_x HE142 HH83 (wt0 rfl) (x_load1 tv_2 rfl (c_blk 2 rfl rfl)) rfl rfl fun a_143 HE144 => ?_
      have ke34 : (e22.2.1).toNat < a1.2.length := by omega
      obtain ⟨be34, fe34, rfl⟩ := el_own HH83 (i := 1) rfl ke34
      refine pl_x HE144 HH83 (wt0 rfl) (x_indexAddr ts_31 rfl rfl rfl (by omega) ke34) rfl rfl fun a_145 HE146 => ?_
      obtain ⟨y35, xy35⟩ : ∃ y_, y_ = a1.2[(e22.2.1).toNat]'(by first | exact ke34 | (simp only [List.length_set]; exact ke34) | omega | (simp only [List.length_set]; omega) | (simp; omega)) := ⟨_, rfl⟩
      have iy35 : I64 y35 := by rw [xy35]; exact i_ownI HH83 1 rfl _
      have jy35 := iy35; unfold I64 at jy35
      have by35 := allW_mem v3 y35 (by rw [xy35]; exact List.getElem_mem _)
      refine pl_x HE146 HH83 (wt0 rfl) (x_load1 tv_2 rfl (c_ownV 1 rfl (by first | exact ke34 | (simp only [List.length_set]; exact ke34) | omega | (simp only [List.length_set]; omega) | (simp; omega)) xy35.symm)) rfl rfl fun a_147 HE148 => ?_
      refine pl_x HE148 HH83 (wt0 rfl) (x_eql rfl rfl) rfl rfl fun a_149 HE150 => ?_
      refine wpList_nil ?_
      clear a_88 HE89 a_137 HE138 a_139 HE140 a_141 HE142 a_143 HE144 a_145 HE146 a_147 HE148
      refine nrm ?_
      refine cnd_e HE150 rfl (fun hc36 => ?_) (fun hc36 => ?_)
      · refine wp_seq ?_
        refine rg ?_
        refine pl_x HE150 HH83 (wt0 rfl) (x_fieldAddr fa_116_3 rfl) rfl rfl fun a_151 HE152 => ?_
        refine pl_x HE152 HH83 (wt0 rfl) (x_load1 tv_2 rfl (c_blk 2 rfl rfl)) rfl rfl fun a_153 HE154 => ?_
        refine pl_x HE154 HH83 (wt0 rfl) (x_fieldAddr fa_55_0 rfl) rfl rfl fun a_155 HE156 => ?_
        refine pl fun K_157 hK158 => ?_
        refine st_store (vs := [.int .i64 (e22.2.2.2)]) 0 HE156 HH83 tv_2 rfl rfl rfl rfl rfl rfl (by simp [Value.oneCell']) (wt0 rfl) fun w' HH159 => hK158 _ _ ?_
        refine wpList_nil ?_
        clear a_149 HE150 a_151 HE152 a_153 HE154 HH83 hK158 K_157
        refine nrm ?_
        refine wp_seq ?_
        refine rg ?_
        refine pl_x HE156 HH159 (wt0 rfl) (x_loadN (cs := [.int .i64 (e22.2.2.2), .slice (some ⟨be34, fe34, none⟩) (a1.2.length) cr24_0]) tv_55 rfl rfl (c_blkN 0 rfl)) rfl rfl fun a_160 HE161 => ?_
        refine pl fun K_162 hK163 => ?_
        refine st_store (vs := [.int .i64 (e22.2.2.2), .slice (some ⟨be34, fe34, none⟩) (a1.2.length) cr24_0]) 3 HE161 HH159 tv_55 rfl rfl rfl rfl rfl rfl (by simp [Value.oneCell']) (wt0 rfl) fun w' HH164 => hK163 _ _ ?_
        refine pl_x HE161 HH164 (wt0 rfl) (x_assign rfl) rfl rfl fun a_165 HE166 => ?_
        refine wpList_nil ?_
        clear a_155 HE156 HH159 a_160 HE161 hK163 K_162
        refine nrm ?_
        refine wp_ret ?_
        refine (thn_ret ?_)
        refine ret2 HE166 rfl (rv_cell rfl (tv_55.loadN (cs := [.int .i64 (e22.2.2.2), .slice (some ⟨be34, fe34, none⟩) (a1.2.length) cr24_0]) rfl (c_blkN 3 rfl _ HH164))) (rv_tmp rfl) ?_
        have HH167 := HH164.sel [1, 0, 2, 3] (by decide) rfl
        have HH168 := HH167.pairF (E := eInt) (c1 := [.int .i64 (e22.2.2.2)]) (x := e22.2.2.2) (oI (by exact ⟨by omega, by omega⟩))
        obtain ⟨S37, HH169⟩ : ∃ S, Held Nob w (rO eStore S [.int .i64 (e22.2.2.2), .slice (some ⟨be34, fe34, none⟩) (a1.2.length) cr24_0] (e22.2.2.2, a1.2) :: _) _ := ⟨_, HH168⟩
        have hF : (stepS2 a0 a1) = ((e22.2.2.2, a1.2), true) := by
          grind [stepS2, stepS]
        exact ⟨_, by rw [hF] <;> rfl, by rw [hF]; exact (HH169.o (i := 0) rfl), HH169.below⟩
      · refine wp_skip ?_
        refine nrm ?_
        refine wp_seq ?_
        refine rg ?_
        refine pl_x HE150 HH83 (wt0 rfl) (x_fieldAddr fa_55_1 rfl) rfl rfl fun a_170 HE171 => ?_
        refine pl_x HE171 HH83 (wt0 rfl) (x_load1 tv_31 rfl (c_blk 0 rfl rfl)) rfl rfl fun a_172 HE173 => ?_
        refine pl_x HE173 HH83 (wt0 rfl) (x_fieldAddr fa_116_1 rfl) rfl rfl fun a_174 HE175 => ?_
        refine pl_x HE175 HH83 (wt0 rfl) (x_load1 tv_2 rfl (c_blk 2 rfl rfl)) rfl rfl fun a_176 HE177 => ?_
        have ke38 : (e22.2.1).toNat < a1.2.length := by omega
        refine pl_x HE177 HH83 (wt0 rfl) (x_indexAddr ts_31 rfl rfl rfl (by omega) ke38) rfl rfl fun a_178 HE179 => ?_
        obtain ⟨y39, xy39⟩ : ∃ y_, y_ = a1.2[(e22.2.1).toNat]'(by first | exact ke38 | (simp only [List.length_set]; exact ke38) | omega | (simp only [List.length_set]; omega) | (simp; omega)) := ⟨_, rfl⟩
        have iy39 : I64 y39 := by rw [xy39]; exact i_ownI HH83 1 rfl _
        have jy39 := iy39; unfold I64 at jy39
        have by39 := allW_mem v3 y39 (by rw [xy39]; exact List.getElem_mem _)
        refine pl_x HE179 HH83 (wt0 rfl) (x_load1 tv_2 rfl (c_ownV 1 rfl (by first | exact ke38 | (simp only [List.length_set]; exact ke38) | omega | (simp only [List.length_set]; omega) | (simp; omega)) xy39.symm)) rfl rfl fun a_180 HE181 => ?_
        refine pl_x HE181 HH83 (wt0 rfl) (x_sub rfl rfl (by exact ⟨by omega, by omega⟩)) rfl rfl fun a_182 HE183 => ?_
        have ke40 : (e22.2.1).toNat < a1.2.length := by omega
        refine pl_x HE183 HH83 (wt0 rfl) (x_indexAddr ts_31 rfl rfl rfl (by omega) ke40) rfl rfl fun a_184 HE185 => ?_
        refine pl fun K_186 hK187 => ?_
        refine st_storeI 1 HE185 HH83 tv_2 rfl rfl rfl (by first | exact ke40 | (simp only [List.length_set]; exact ke40) | omega | (simp only [List.length_set]; omega) | (simp; omega)) (by exact ⟨by omega, by omega⟩) (wt0 rfl) fun w' HH188 => hK187 _ _ ?_
        refine wpList_nil ?_
        clear a_149 HE150 a_170 HE171 a_172 HE173 a_174 HE175 a_176 HE177 a_178 HE179 a_180 HE181 a_182 HE183 HH83 hK187 K_186
        refine nrm ?_
        refine wp_seq ?_
        refine rg ?_
        refine pl_x HE185 HH188 (wt0 rfl) (x_loadN (cs := [.int .i64 (e22.2.2.1), .slice (some ⟨be34, fe34, none⟩) (a1.2.length) cr24_0]) tv_55 rfl rfl (c_blkN 0 rfl)) rfl rfl fun a_189 HE190 => ?_
        refine pl fun K_191 hK192 => ?_
        refine st_store (vs := [.int .i64 (e22.2.2.1), .slice (some ⟨be34, fe34, none⟩) (a1.2.length) cr24_0]) 3 HE190 HH188 tv_55 rfl rfl rfl rfl rfl rfl (by simp [Value.oneCell']) (wt0 rfl) fun w' HH193 => hK192 _ _ ?_
        refine pl_x HE190 HH193 (wt0 rfl) (x_assign rfl) rfl rfl fun a_194 HE195 => ?_
        refine wpList_nil ?_
        clear a_184 HE185 HH188 a_189 HE190 hK192 K_191
        refine nrm ?_
        refine wp_ret ?_
        refine ret2 HE195 rfl (rv_cell rfl (tv_55.loadN (cs := [.int .i64 (e22.2.2.1), .slice (some ⟨be34, fe34, none⟩) (a1.2.length) cr24_0]) rfl (c_blkN 3 rfl _ HH193))) (rv_tmp rfl) ?_
        have HH196 := HH193.sel [1, 0, 2, 3] (by decide) rfl
        have HH197 := HH196.relen (n := a1.2.length) (by first | exact mkL_len _ _ _ _ | (simp; done) | (simp; omega))
        have HH198 := HH197.pairF (E := eInt) (c1 := [.int .i64 (e22.2.2.1)]) (x := e22.2.2.1) (oI (by exact ⟨by omega, by omega⟩))
        obtain ⟨S41, HH199⟩ : ∃ S, Held Nob w (rO eStore S [.int .i64 (e22.2.2.1), .slice (some ⟨be34, fe34, none⟩) (a1.2.length) cr24_0] (e22.2.2.1, (a1.2.set ((e22.2.1).toNat) (y39 - 1))) :: _) _ := ⟨_, HH198⟩
        have hF : (stepS2 a0 a1) = ((e22.2.2.1, (a1.2.set ((e22.2.1).toNat) (y39 - 1))), true) := by
          grind [stepS2, stepS]
        exact ⟨_, by rw [hF] <;> rfl, by rw [hF]; exact (HH199.o (i := 0) rfl), HH199.below⟩

theorem ct_cost_SInstr (xs : List tInstr) : ct_SInstr xs ≤ 4 * cost_SInstr xs := by
  have := cntL_const ct_Instr 4 xs fun _ => rfl
  unfold ct_SInstr cost_SInstr; omega

theorem cv_cost_Store (x : tStore) : cv_Store x ≤ 4 * cost_Store x := by
  have h1 := ct_cost_L x.2
  unfold cv_Store cost_Store; omega

theorem stepS_len (p : List tInstr) (x : tStore) : (stepS p x).2.2.length = x.2.length := by
  unfold stepS; grind

def traceF (p : List tInstr) : Nat → tStore → Int → List tStore → Int × Bool × Int × tStore × List tStore
  | 0, y, n, l => (n, y.1 == (p.length : Int), 0, y, l ++ [y])
  | f + 1, y, n, l => if y.1 = (p.length : Int) then (n, true, 0, y, l ++ [y]) else if (stepS p y).1 then traceF p f (stepS p y).2 (n + 1) (l ++ [y]) else (0, false, 5, (stepS p y).2, l ++ [y])

def traceS (p : List tInstr) (x : tStore) (most : Int) (l : List tStore) : Int × Bool × Int × tStore × List tStore := traceF p most.toNat x 0 l

theorem traceF_eq (p : List tInstr) (f : Nat) (y : tStore) (n : Int) (l : List tStore) : traceF p f y n l = if y.1 = (p.length : Int) ∨ f = 0 then (n, y.1 == (p.length : Int), 0, y, l ++ [y]) else if (stepS p y).1 then traceF p (f - 1) (stepS p y).2 (n + 1) (l ++ [y]) else (0, false, 5, (stepS p y).2, l ++ [y]) := by
  cases f with
  | zero => simp [traceF]
  | succ f => by_cases h : y.1 = (p.length : Int) <;> simp [traceF, h]

theorem traceF_step {p : List tInstr} {y : tStore} {f g : Nat} {n : Int} {l : List tStore} (h : ¬ y.1 = (p.length : Int)) (hf : f = g + 1) (hs : (stepS p y).1 = true) : traceF p f y n l = traceF p g (stepS p y).2 (n + 1) (l ++ [y]) := by
  subst hf; simp [traceF, h, hs]

def snocS (y : tStore) (l : List tStore) : List tStore := l ++ [y]

def traceProg (p : List tInstr) (x : tStore) (n : Int) : List tStore × Int :=
  if validStore p x then (if withinB n 0 60 then (if (traceS p x n []).2.2.1 = 0 then ((traceS p x n []).2.2.2.2, 0) else ([], (traceS p x n []).2.2.1)) else ([], 2)) else ([], 1)

theorem traceF_bd (p : List tInstr) : ∀ (f : Nat) (y : tStore) (n : Int) (l : List tStore), y.2.length ≤ 24 → (∀ x ∈ l, x.2.length ≤ 24) → (traceF p f y n l).2.2.2.2.length ≤ l.length + f + 1 ∧ ∀ x ∈ (traceF p f y n l).2.2.2.2, x.2.length ≤ 24
  | 0, y, n, l, hy, hl => by
    refine ⟨by simp [traceF], ?_⟩
    intro x hx
    simp only [traceF, List.mem_append, List.mem_singleton] at hx
    rcases hx with h | rfl
    · exact hl x h
    · exact hy
  | f + 1, y, n, l, hy, hl => by
    have hl2 : ∀ x ∈ l ++ [y], x.2.length ≤ 24 := by
      intro x hx
      rcases List.mem_append.1 hx with h | h
      · exact hl x h
      · rw [List.mem_singleton.1 h]; exact hy
    rw [traceF]
    split
    · exact ⟨by simp, hl2⟩
    · split
      · have ih := traceF_bd p f (stepS p y).2 (n + 1) (l ++ [y]) (by rw [stepS_len]; exact hy) hl2
        refine ⟨?_, ih.2⟩
        have := ih.1
        rw [List.length_append, List.length_singleton] at this
        omega
      · exact ⟨by simp, hl2⟩

theorem traceProg_ct (p : List tInstr) (x : tStore) (n : Int) : (ct_SStore (traceProg p x n).1 : Int) ≤ 1000000000 := by
  unfold traceProg
  split
  · rename_i h
    have h1 := (storeOf_facts (validStore_of h)).2.2.1
    split
    · rename_i h2
      have h3 := withinB_true.1 h2
      split
      · obtain ⟨h4, h5⟩ := traceF_bd p n.toNat x 0 [] (by omega) (by simp)
        have h6 : ct_SStore (traceS p x n []).2.2.2.2 ≤ 100 * (traceS p x n []).2.2.2.2.length := cntL_bound (c := ct_Store) fun y hy => by
          have h7 := h5 y hy
          have h8 := ct_L_len y.2
          unfold ct_Store
          omega
        have h9 : (traceS p x n []).2.2.2.2.length ≤ 0 + n.toNat + 1 := h4
        simp only
        omega
      · simp [ct_SStore, cntL]
    · simp [ct_SStore, cntL]
  · simp [ct_SStore, cntL]

set_option maxRecDepth 100000 in
set_option maxHeartbeats 4000000 in
theorem impl_TraceProgram1 (M : Nat → Prop) (es0 : List Value) (a0 : tStore) (p1 : Nat) (A1 : Option Addr) (c1 : Nat) (a1 : (List tStore)) (S1 : Nat → Prop) (w : World) (HM : Held M w [rBlk p1 52 [.slice A1 a1.length c1], rVec eStore 55 S1 A1 c1 a1] w) (h0 : eStore.R w (Out M w) es0 a0) (s0 : a0.2.length ≤ 1000000000) (s1 : a1.length ≤ 1000000) :
    Calls Try.prog 115 #[.agg es0.toArray, .pointer (some ⟨p1, 0, none⟩)] w fun e w' => ∃ (A1' : Option Addr) (c1' : Nat) (S1' : Nat → Prop), e = .returned (.tuple #[]) ∧ Held M w [rBlk p1 52 [.slice A1' (List.length (snocS a0 a1)) c1'], rVec eStore 55 S1' A1' c1' (snocS a0 a1)] w' := by
  have H0 := h0
  obtain ⟨Az0_1, cz0_1, rfl, gz0_0, gz0_1⟩ := shape_Store h0
  have jz0_0 := gz0_0; unfold I64 at jz0_0
  have lz0_1 := gz0_1.len
  have HH1 := HM
  have lv1 := (HH1.vecSl (i := 1) rfl).len
  refine enter (n := 8) Try.func115 rfl rfl rfl fun a_2 HE3 => ?_
  refine wp_seq ?_
  refine rg ?_
  refine pl fun K_4 hK5 => ?_
  refine st_box (cs := [.int .i64 (a0.1), .slice Az0_1 (a0.2.length) cz0_1]) HE3 HH1 rfl rfl (wt0 rfl) rfl fun q21 a_6 w' HE7 HH8 => hK5 _ _ ?_
  refine wpList_nil ?_
  clear a_2 HE3 HH1 hK5 K_4
  refine nrm ?_
  refine dr_start (Held M w [rBlk q21 55 [.int .i64 (a0.1), .slice Az0_1 (a0.2.length) cz0_1]]) 6 #[false, false, false, false, false, false] hmix rfl rfl HH8 (fun _ h => h.sel [0] (by decide) rfl) fun w' HH9 => ?_
  have HS10 := HH9.sel [0] (by decide) rfl
  refine dr_take (i := 1) (ls' := #[false, true, false, false, false, false]) HE7 HS10 rfl (by kernel_rfl) (by kernel_rfl) (by kernel_rfl) (fun _ _ _ h => h) rfl (wt0 rfl) (x_loadN (cs := [.int .i64 (a0.1), .slice Az0_1 (a0.2.length) cz0_1]) tv_55 rfl rfl (c_blkN 0 rfl)) rfl rfl fun a_11 HE12 => ?_
  refine dr_two (i := 0) (j := 2) (ls' := #[true, true, false, false, false, false]) (ls'' := #[false, true, true, false, false, false]) rfl rfl (by kernel_rfl) rfl rfl (fun K_13 hK14 => ?_) (fun K_13 hK14 => ?_)
  · refine st_x HE12 HH9 (wt0 rfl) (x_load1 tv_52 rfl (c_blk 1 rfl rfl)) rfl rfl fun a_15 HE16 => hK14 _ _ HS10 ?_
    refine dr_one (i := 2) (ls' := #[true, true, true, false, false, false]) rfl (by kernel_rfl) rfl fun K_17 hK18 => ?_
    refine st_call HE16 (wt0 rfl) rfl rfl rfl en_113 rfl rfl (impl_copyStore [.int .i64 (a0.1), .slice Az0_1 (a0.2.length) cz0_1] a0 _ (HH9.oldRM H0) (by omega)) fun e w' hr => ?_
    obtain ⟨esr22_0, rfl, hor22_0, hbr22⟩ := hr
    have hr := eStore.read hor22_0
    obtain ⟨Sr22, HH19⟩ := HH9.newO hbr22 hor22_0
    obtain ⟨Ar22_0_1, cr22_0_1, rfl, gr22_0_0, gr22_0_1⟩ := shape_Store hr
    have jr22_0_0 := gr22_0_0; unfold I64 at jr22_0_0
    have HH20 := HH19.unF rfl
    refine ⟨_, rfl, fun a_21 HE22 => hK18 _ _ (by exact HH20.sel [1] (by decide) rfl) ?_⟩
    have HS23 := HH20.sel [1] (by decide) rfl
    refine dr_one (i := 3) (ls' := #[true, true, true, true, false, false]) rfl (by kernel_rfl) rfl fun K_24 hK25 => ?_
    refine st_lit (m := 1) (cs := [.int .i64 (a0.1), .slice Ar22_0_1 (a0.2.length) cr22_0_1]) (e := 55) HE22 HH20 (run_lit ts_52 HE22 (vs := [.agg #[.int .i64 (a0.1), .slice Ar22_0_1 (a0.2.length) cr22_0_1]]) rfl rfl (by simp [Value.cells]) rfl (by decide)) (wt0 rfl) rfl rfl fun q23 a_26 w' HE27 HH28 => hK25 _ _ (by exact HH28.sel [2] (by decide) rfl) ?_
    have HS29 := HH28.sel [2] (by decide) rfl
    refine dr_one (i := 4) (ls' := #[true, true, true, true, true, false]) rfl (by kernel_rfl) rfl fun K_30 hK31 => ?_
    have HH32 := HH28.sel [1, 0, 2, 3, 4] (by decide) rfl
    have HH33 := HH32.pairF (E := eInt) (c1 := [.int .i64 (a0.1)]) (x := a0.1) (oI (by exact ⟨by omega, by omega⟩))
    obtain ⟨S27, HH34⟩ : ∃ S, Held M w (rO eStore S [.int .i64 (a0.1), .slice Ar22_0_1 (a0.2.length) cr22_0_1] a0 :: _) _ := ⟨_, HH33⟩
    refine st_app1 HE27 HH34 ts_52 [4, 0, 1, 2, 3] (by decide) rfl rfl rfl (by simp [Value.oneCell']) (by unfold maxLen; first | omega | (simp; done) | (simp; omega)) (by first | omega | (simp; done) | (simp; omega)) (wt0 rfl) rfl fun A24 c25 S26 a_35 w' HE36 HH37 => hK31 _ _ (by exact HH37.sel [2] (by decide) rfl) ?_
    have HS38 := HH37.sel [2] (by decide) rfl
    refine dr_one (i := 5) (ls' := #[true, true, true, true, true, true]) rfl (by kernel_rfl) rfl fun K_39 hK40 => ?_
    refine st_store (vs := [.slice A24 ((a1 ++ [a0]).length) c25]) 3 HE36 HH37 tv_52 rfl rfl rfl rfl rfl rfl (by simp [Value.oneCell']) (wt0 rfl) fun w' HH41 => hK40 _ _ (by exact HH41.sel [2] (by decide) rfl) ?_
    have HS42 := HH41.sel [2] (by decide) rfl
    refine dr_done (by kernel_rfl) ?_
    clear HH8 a_6 HE7 a_11 HE12 K_13 hK14 HH9 HH19 a_15 HE16 HS10 K_17 hK18 a_21 HE22 HH20 HS23 K_24 hK25 HH28 HH32 HH33 a_26 HE27 HH34 HS29 K_30 hK31 HH37 HS38 hK40 K_39
    refine fin0 HE36 rfl ?_
    have hF : (snocS a0 a1) = (a1 ++ [a0]) := by
      rfl
    exact ⟨_, _, _, rfl, by rw [hF]; exact HH41.sel [3, 0] (by decide) rfl⟩
  · refine st_call HE12 (wt0 rfl) rfl rfl rfl en_113 rfl rfl (impl_copyStore [.int .i64 (a0.1), .slice Az0_1 (a0.2.length) cz0_1] a0 _ (HH9.oldRM H0) (by omega)) fun e w' hr => ?_
    obtain ⟨esr28_0, rfl, hor28_0, hbr28⟩ := hr
    have hr := eStore.read hor28_0
    obtain ⟨Sr28, HH43⟩ := HH9.newO hbr28 hor28_0
    obtain ⟨Ar28_0_1, cr28_0_1, rfl, gr28_0_0, gr28_0_1⟩ := shape_Store hr
    have jr28_0_0 := gr28_0_0; unfold I64 at jr28_0_0
    have HH44 := HH43.unF rfl
    refine ⟨_, rfl, fun a_45 HE46 => hK14 _ _ (by exact HH44.sel [1] (by decide) rfl) ?_⟩
    have HS47 := HH44.sel [1] (by decide) rfl
    refine dr_two (i := 0) (j := 3) (ls' := #[true, true, true, false, false, false]) (ls'' := #[false, true, true, true, false, false]) rfl rfl (by kernel_rfl) rfl rfl (fun K_48 hK49 => ?_) (fun K_48 hK49 => ?_)
    · refine st_x HE46 HH44 (wt0 rfl) (x_load1 tv_52 rfl (c_blk 2 rfl rfl)) rfl rfl fun a_50 HE51 => hK49 _ _ HS47 ?_
      refine dr_one (i := 3) (ls' := #[true, true, true, true, false, false]) rfl (by kernel_rfl) rfl fun K_52 hK53 => ?_
      refine st_lit (m := 1) (cs := [.int .i64 (a0.1), .slice Ar28_0_1 (a0.2.length) cr28_0_1]) (e := 55) HE51 HH44 (run_lit ts_52 HE51 (vs := [.agg #[.int .i64 (a0.1), .slice Ar28_0_1 (a0.2.length) cr28_0_1]]) rfl rfl (by simp [Value.cells]) rfl (by decide)) (wt0 rfl) rfl rfl fun q29 a_54 w' HE55 HH56 => hK53 _ _ (by exact HH56.sel [2] (by decide) rfl) ?_
      have HS57 := HH56.sel [2] (by decide) rfl
      refine dr_one (i := 4) (ls' := #[true, true, true, true, true, false]) rfl (by kernel_rfl) rfl fun K_58 hK59 => ?_
      have HH60 := HH56.sel [1, 0, 2, 3, 4] (by decide) rfl
      have HH61 := HH60.pairF (E := eInt) (c1 := [.int .i64 (a0.1)]) (x := a0.1) (oI (by exact ⟨by omega, by omega⟩))
      obtain ⟨S33, HH62⟩ : ∃ S, Held M w (rO eStore S [.int .i64 (a0.1), .slice Ar28_0_1 (a0.2.length) cr28_0_1] a0 :: _) _ := ⟨_, HH61⟩
      refine st_app1 HE55 HH62 ts_52 [4, 0, 1, 2, 3] (by decide) rfl rfl rfl (by simp [Value.oneCell']) (by unfold maxLen; first | omega | (simp; done) | (simp; omega)) (by first | omega | (simp; done) | (simp; omega)) (wt0 rfl) rfl fun A30 c31 S32 a_63 w' HE64 HH65 => hK59 _ _ (by exact HH65.sel [2] (by decide) rfl) ?_
      have HS66 := HH65.sel [2] (by decide) rfl
      refine dr_one (i := 5) (ls' := #[true, true, true, true, true, true]) rfl (by kernel_rfl) rfl fun K_67 hK68 => ?_
      refine st_store (vs := [.slice A30 ((a1 ++ [a0]).length) c31]) 3 HE64 HH65 tv_52 rfl rfl rfl rfl rfl rfl (by simp [Value.oneCell']) (wt0 rfl) fun w' HH69 => hK68 _ _ (by exact HH69.sel [2] (by decide) rfl) ?_
      have HS70 := HH69.sel [2] (by decide) rfl
      refine dr_done (by kernel_rfl) ?_
      clear HH8 a_6 HE7 HH9 HH43 a_11 HE12 HS10 K_13 hK14 a_45 HE46 K_48 hK49 a_50 HE51 HH44 HS47 K_52 hK53 HH56 HH60 HH61 a_54 HE55 HH62 HS57 K_58 hK59 HH65 HS66 hK68 K_67
      refine fin0 HE64 rfl ?_
      have hF : (snocS a0 a1) = (a1 ++ [a0]) := by
        rfl
      exact ⟨_, _, _, rfl, by rw [hF]; exact HH69.sel [3, 0] (by decide) rfl⟩
    · refine st_lit (m := 1) (cs := [.int .i64 (a0.1), .slice Ar28_0_1 (a0.2.length) cr28_0_1]) (e := 55) HE46 HH44 (run_lit ts_52 HE46 (vs := [.agg #[.int .i64 (a0.1), .slice Ar28_0_1 (a0.2.length) cr28_0_1]]) rfl rfl (by simp [Value.cells]) rfl (by decide)) (wt0 rfl) rfl rfl fun q34 a_71 w' HE72 HH73 => hK49 _ _ (by exact HH73.sel [2] (by decide) rfl) ?_
      have HS74 := HH73.sel [2] (by decide) rfl
      refine dr_one (i := 0) (ls' := #[true, true, true, true, false, false]) rfl (by kernel_rfl) rfl fun K_75 hK76 => ?_
      refine st_x HE72 HH73 (wt0 rfl) (x_load1 tv_52 rfl (c_blk 3 rfl rfl)) rfl rfl fun a_77 HE78 => hK76 _ _ HS74 ?_
      refine dr_one (i := 4) (ls' := #[true, true, true, true, true, false]) rfl (by kernel_rfl) rfl fun K_79 hK80 => ?_
      have HH81 := HH73.sel [1, 0, 2, 3, 4] (by decide) rfl
      have HH82 := HH81.pairF (E := eInt) (c1 := [.int .i64 (a0.1)]) (x := a0.1) (oI (by exact ⟨by omega, by omega⟩))
      obtain ⟨S38, HH83⟩ : ∃ S, Held M w (rO eStore S [.int .i64 (a0.1), .slice Ar28_0_1 (a0.2.length) cr28_0_1] a0 :: _) _ := ⟨_, HH82⟩
      refine st_app1 HE78 HH83 ts_52 [4, 0, 1, 2, 3] (by decide) rfl rfl rfl (by simp [Value.oneCell']) (by unfold maxLen; first | omega | (simp; done) | (simp; omega)) (by first | omega | (simp; done) | (simp; omega)) (wt0 rfl) rfl fun A35 c36 S37 a_84 w' HE85 HH86 => hK80 _ _ (by exact HH86.sel [2] (by decide) rfl) ?_
      have HS87 := HH86.sel [2] (by decide) rfl
      refine dr_one (i := 5) (ls' := #[true, true, true, true, true, true]) rfl (by kernel_rfl) rfl fun K_88 hK89 => ?_
      refine st_store (vs := [.slice A35 ((a1 ++ [a0]).length) c36]) 3 HE85 HH86 tv_52 rfl rfl rfl rfl rfl rfl (by simp [Value.oneCell']) (wt0 rfl) fun w' HH90 => hK89 _ _ (by exact HH90.sel [2] (by decide) rfl) ?_
      have HS91 := HH90.sel [2] (by decide) rfl
      refine dr_done (by kernel_rfl) ?_
      clear HH8 a_6 HE7 HH9 HH43 a_11 HE12 HS10 K_13 hK14 a_45 HE46 HH44 HS47 K_48 hK49 a_71 HE72 K_75 hK76 HH73 HH81 HH82 a_77 HE78 HH83 HS74 K_79 hK80 HH86 HS87 hK89 K_88
      refine fin0 HE85 rfl ?_
      have hF : (snocS a0 a1) = (a1 ++ [a0]) := by
        rfl
      exact ⟨_, _, _, rfl, by rw [hF]; exact HH90.sel [3, 0] (by decide) rfl⟩

set_option maxRecDepth 100000 in
set_option maxHeartbeats 4000000 in
theorem impl_runStoreT (M : Nat → Prop) (A0 : Option Addr) (c0 : Nat) (a0 : (List tInstr)) (p1 : Nat) (es1 : List Value) (a1 : tStore) (S1 : Nat → Prop) (a2 : Int) (p4 : Nat) (A4 : Option Addr) (c4 : Nat) (a4 : (List tStore)) (S4 : Nat → Prop) (w : World) (HM : Held M w [rBlk p1 55 es1, rO eStore S1 es1 a1, rBlk p4 52 [.slice A4 a4.length c4], rVec eStore 55 S4 A4 c4 a4] w) (h0 : Sl eInstr w (Out M w) A0 c0 a0) (s0 : validProg a0 = true) (s1 : storeOf a0 a1 = true) (s2 : 0 ≤ a2 ∧ a2 ≤ 20000) (s3 : a4.length ≤ 1000) :
    Calls Try.prog 114 #[.slice A0 a0.length c0, .pointer (some ⟨p1, 0, none⟩), .int .i64 a2, .func (.func 115) #[] #[.pointer (some ⟨p4, 0, none⟩)]] w fun e w' => ∃ (es1' : List Value) (S1' : Nat → Prop) (A4' : Option Addr) (c4' : Nat) (S4' : Nat → Prop), e = .returned (.tuple #[.int .i64 (traceS a0 a1 a2 a4).1, .bool (traceS a0 a1 a2 a4).2.1, .int .i64 (traceS a0 a1 a2 a4).2.2.1]) ∧ Held M w [rBlk p1 55 es1', rO eStore S1' es1' (traceS a0 a1 a2 a4).2.2.2.1, rBlk p4 52 [.slice A4' (List.length ((traceS a0 a1 a2 a4).2.2.2.2)) c4'], rVec eStore 55 S4' A4' c4' ((traceS a0 a1 a2 a4).2.2.2.2)] w' := by
  have l0 := h0.len
  have HH1 := HM
  have R1 := HH1.rd (i := 1) rfl
  obtain ⟨Az1_1, cz1_1, rfl, gz1_0, gz1_1⟩ := shape_Store R1
  have jz1_0 := gz1_0; unfold I64 at jz1_0
  have lz1_1 := gz1_1.len
  clear R1
  have lv4 := (HH1.vecSl (i := 3) rfl).len
  have HH2 := HH1.sel [1, 0, 2, 3] (by decide) rfl
  have HH3 := HH2.unF rfl
  refine enter (n := 43) Try.func114 rfl rfl rfl fun a_4 HE5 => ?_
  refine wp_seq ?_
  refine rg ?_
  refine pl_x HE5 HH3 (wt0 rfl) (x_assign rfl) rfl rfl fun a_6 HE7 => ?_
  refine pl_x HE7 HH3 (wt0 rfl) (x_assign rfl) rfl rfl fun a_8 HE9 => ?_
  refine pl_x HE9 HH3 (wt0 rfl) (x_assign rfl) rfl rfl fun a_10 HE11 => ?_
  refine wpList_nil ?_
  clear HH1 HH2 a_4 HE5 a_6 HE7 a_8 HE9
  refine nrm ?_
  refine wp_seq ?_
  refine rg ?_
  refine pl_x HE11 HH3 (wt0 rfl) (x_assign rfl) rfl rfl fun a_12 HE13 => ?_
  refine wpList_nil ?_
  clear a_10 HE11
  refine nrm ?_
  refine wp_block ?_
  refine lp (fun m a w' => ∃ (k : Nat) (y : tStore) (l : List tStore) (A_1_1 : Option Addr) (c_1_1 : Nat) (S_1_1 : Nat → Prop) (A_1004_0 : Option Addr) (c_1004_0 : Nat) (S_1004_0 : Nat → Prop), m = (a2 - (k : Int)).toNat ∧ Env 43 [(11, .int .i64 (k : Int)), (0, .slice A0 (a0.length) c0), (1, .pointer (some ⟨p1, 0, none⟩)), (2, .int .i64 (a2)), (3, .func (.func 115) #[] #[.pointer (some ⟨p4, 0, none⟩)])] a ∧ Held M w [rSo eInt S_1_1 A_1_1 c_1_1 y.2, rVec eStore 55 S_1004_0 A_1004_0 c_1004_0 l, rBlk p1 55 [.int .i64 y.1, .slice A_1_1 (List.length y.2) c_1_1], rBlk p4 52 [.slice A_1004_0 (List.length l) c_1004_0]] w' ∧ ((k : Int) ≤ a2) ∧ (storeOf a0 y = true) ∧ (traceS a0 a1 a2 a4 = traceF a0 (a2 - k).toNat y k l) ∧ (l.length ≤ 1000 + k)) ((a2 - ((0) : Int)).toNat) ?_ ?_
  · exact ⟨0, a1, a4, Az1_1, cz1_1, S1, A4, c4, S4, rfl, HE13.sub ⟨(lkI rfl (by first | rfl | omega | (simp []; done))), rfl, rfl, rfl, rfl, trivial⟩, (HH3.sel [0, 3, 1, 2] (by decide) rfl), (by first | omega | assumption | (simp; done) | simp_all), (by exact s1), (by unfold traceS; simp), (by first | omega | assumption | (simp; done) | simp_all)⟩
  · rintro m a_14 w' ⟨k, y, l, A_1_1, c_1_1, S_1_1, A_1004_0, c_1004_0, S_1004_0, rfl, HE15, HH16, p21_0, p21_1, p21_2, p21_3⟩
    obtain ⟨v0, v1, v2, v3⟩ := storeOf_facts p21_1
    refine wp_seq ?_
    refine wp_block ?_
    refine wp_seq ?_
    refine rg ?_
    refine pl_x HE15 HH16 (wt0 rfl) (x_move rfl) rfl rfl fun a_17 HE18 => ?_
    refine pl_x HE18 HH16 (wt0 rfl) (x_move rfl) rfl rfl fun a_19 HE20 => ?_
    refine pl_x HE20 HH16 (wt0 rfl) (x_nilCheck rfl) rfl rfl fun a_21 HE22 => ?_
    refine pl_x HE22 HH16 (wt0 rfl) (x_loadN (cs := [.int .i64 (y.1), .slice A_1_1 ((List.length y.2)) c_1_1]) tv_55 rfl rfl (c_blkN 2 rfl)) rfl rfl fun a_23 HE24 => ?_
    refine pl fun K_25 hK26 => ?_
    have HH27 := HH16.sel [3, 1, 0, 2] (by decide) rfl
    have HH28 : Held M w ([rBlk p4 52 [.slice A_1004_0 ((List.length l)) c_1004_0], rVec eStore 55 S_1004_0 A_1004_0 c_1004_0 l] ++ [rSo eInt S_1_1 A_1_1 c_1_1 y.2, rBlk p1 55 [.int .i64 (y.1), .slice A_1_1 ((List.length y.2)) c_1_1]]) _ := HH27
    refine st_callD HE24 (wt0 rfl) rfl rfl rfl en_115 rfl rfl (impl_TraceProgram1 (Foot [rBlk p4 52 [.slice A_1004_0 ((List.length l)) c_1004_0], rVec eStore 55 S_1004_0 A_1004_0 c_1004_0 l]) [.int .i64 (y.1), .slice A_1_1 ((List.length y.2)) c_1_1] y _ _ _ l _ _ HH28.focus (rep_Store (x := y) (by exact ⟨by omega, by omega⟩) (sl_of_r (HH28.lendR (i := 0) rfl))) (by omega) (by omega)) fun e w' hr => ?_
    obtain ⟨Ar22_0, cr22_0, Sr22_0, rfl, hbr22⟩ := hr
    have HH29 := HH28.back hbr22
    clear hbr22
    have HH30 : Held M w ([rBlk p4 52 [.slice Ar22_0 ((List.length (snocS y l))) cr22_0], rVec eStore 55 Sr22_0 Ar22_0 cr22_0 (snocS y l)] ++ [rSo eInt S_1_1 A_1_1 c_1_1 y.2, rBlk p1 55 [.int .i64 (y.1), .slice A_1_1 ((List.length y.2)) c_1_1]]) _ := HH29
    refine ⟨_, rfl, fun a_31 HE32 => hK26 _ _ ?_⟩
    refine wpList_nil ?_
    clear a_12 HE13 HH3 a_14 HE15 a_17 HE18 a_19 HE20 a_21 HE22 HH16 HH27 HH28 HH29 a_23 HE24 hK26 K_25
    refine nrm ?_
    refine wp_seq ?_
    refine wp_seq ?_
    refine dr_start (Held M w [rBlk p4 52 [.slice Ar22_0 ((List.length (snocS y l))) cr22_0], rVec eStore 55 Sr22_0 Ar22_0 cr22_0 (snocS y l), rSo eInt S_1_1 A_1_1 c_1_1 y.2, rBlk p1 55 [.int .i64 (y.1), .slice A_1_1 ((List.length y.2)) c_1_1]]) 12 #[false, false, false, false, false, false, false, false, false, false, false, false] hmix rfl rfl HH30 (fun _ h => h.sel [0, 1, 2, 3] (by decide) rfl) fun w' HH33 => ?_
    have HS34 := HH33
    refine dr_take (i := 0) (ls' := #[true, false, false, false, false, false, false, false, false, false, false, false]) HE32 HS34 rfl (by kernel_rfl) (by kernel_rfl) (by kernel_rfl) (fun _ _ _ h => h) rfl (wt0 rfl) (x_move rfl) rfl rfl fun a_35 HE36 => ?_
    refine dr_take (i := 1) (ls' := #[true, true, false, false, false, false, false, false, false, false, false, false]) HE36 HS34 rfl (by kernel_rfl) (by kernel_rfl) (by kernel_rfl) (fun _ _ _ h => h) rfl (wt0 rfl) (x_nilCheck rfl) rfl rfl fun a_37 HE38 => ?_
    refine dr_take (i := 2) (ls' := #[true, true, true, false, false, false, false, false, false, false, false, false]) HE38 HS34 rfl (by kernel_rfl) (by kernel_rfl) (by kernel_rfl) (fun _ _ _ h => h) rfl (wt0 rfl) (x_fieldAddr fa_55_0 rfl) rfl rfl fun a_39 HE40 => ?_
    refine dr_take (i := 3) (ls' := #[true, true, true, true, false, false, false, false, false, false, false, false]) HE40 HS34 rfl (by kernel_rfl) (by kernel_rfl) (by kernel_rfl) (fun _ _ _ h => h) rfl (wt0 rfl) (x_load1 tv_2 rfl (c_blk 3 rfl rfl)) rfl rfl fun a_41 HE42 => ?_
    refine dr_take (i := 4) (ls' := #[true, true, true, true, true, false, false, false, false, false, false, false]) HE42 HS34 rfl (by kernel_rfl) (by kernel_rfl) (by kernel_rfl) (fun _ _ _ h => h) rfl (wt0 rfl) (x_move rfl) rfl rfl fun a_43 HE44 => ?_
    refine dr_one (i := 5) (ls' := #[true, true, true, true, true, true, false, false, false, false, false, false]) rfl (by kernel_rfl) rfl fun K_45 hK46 => ?_
    refine st_call HE44 (wt0 rfl) rfl rfl rfl en_91 rfl rfl (impl_size_Instr _ _ _ _) fun e w' hr => ?_
    obtain ⟨rfl, rfl⟩ := hr
    refine ⟨_, rfl, fun a_47 HE48 => hK46 _ _ (by exact HH33.sel [0, 1, 2, 3] (by decide) rfl) ?_⟩
    have HS49 := HH33.sel [0, 1, 2, 3] (by decide) rfl
    refine dr_take (i := 6) (ls' := #[true, true, true, true, true, true, true, false, false, false, false, false]) HE48 HS49 rfl (by kernel_rfl) (by kernel_rfl) (by kernel_rfl) (fun _ _ _ h => h) rfl (wt0 rfl) (x_eql rfl rfl) rfl rfl fun a_50 HE51 => ?_
    refine dr_take (i := 7) (ls' := #[true, true, true, true, true, true, true, true, false, false, false, false]) HE51 HS49 rfl (by kernel_rfl) (by kernel_rfl) (by kernel_rfl) (fun _ _ _ h => h) rfl (wt0 rfl) (x_move rfl) rfl rfl fun a_52 HE53 => ?_
    by_cases hc24 : y.1 = (a0.length : Int)
    · refine dr_takeNo (i := 8) (ls' := #[true, true, true, true, true, true, true, true, true, false, false, false]) HE53 HS49 rfl (by kernel_rfl) (by kernel_rfl) (by kernel_rfl) (fun _ _ _ h => h) rfl (wtF HE53 rfl rfl rfl (beq_t hc24)) rfl rfl fun a_54 HE55 => ?_
      refine dr_takeNo (i := 9) (ls' := #[true, true, true, true, true, true, true, true, true, true, false, false]) HE55 HS49 rfl (by kernel_rfl) (by kernel_rfl) (by kernel_rfl) (fun _ _ _ h => h) rfl (wtF HE55 rfl rfl rfl (beq_t hc24)) rfl rfl fun a_56 HE57 => ?_
      refine dr_takeNo (i := 10) (ls' := #[true, true, true, true, true, true, true, true, true, true, true, false]) HE57 HS49 rfl (by kernel_rfl) (by kernel_rfl) (by kernel_rfl) (fun _ _ _ h => h) rfl (wtF HE57 rfl rfl rfl (beq_t hc24)) rfl rfl fun a_58 HE59 => ?_
      refine dr_take (i := 11) (ls' := #[true, true, true, true, true, true, true, true, true, true, true, true]) HE59 HS49 rfl (by kernel_rfl) (by kernel_rfl) (by kernel_rfl) (fun _ _ _ h => h) rfl (wt0 rfl) (x_pickT rfl (beq_t hc24) rfl) rfl rfl fun a_60 HE61 => ?_
      refine dr_done (by kernel_rfl) ?_
      clear HH30 a_31 HE32 a_35 HE36 a_37 HE38 a_39 HE40 a_41 HE42 a_43 HE44 HS34 a_47 HE48 a_50 HE51 a_52 HE53 a_54 HE55 a_56 HE57 a_58 HE59 hK46 K_45
      refine nrm ?_
      refine cndT HE61 rfl rfl ?_
      refine wp_seq ?_
      refine dr_start (Held M w [rBlk p4 52 [.slice Ar22_0 ((List.length (snocS y l))) cr22_0], rVec eStore 55 Sr22_0 Ar22_0 cr22_0 (snocS y l), rSo eInt S_1_1 A_1_1 c_1_1 y.2, rBlk p1 55 [.int .i64 (y.1), .slice A_1_1 ((List.length y.2)) c_1_1]]) 11 #[false, false, false, false, false, false, false, false, false, false, false] hmix rfl rfl HH33 (fun _ h => h.sel [0, 1, 2, 3] (by decide) rfl) fun w' HH62 => ?_
      have HS63 := HH62
      refine dr_take (i := 0) (ls' := #[true, false, false, false, false, false, false, false, false, false, false]) HE61 HS63 rfl (by kernel_rfl) (by kernel_rfl) (by kernel_rfl) (fun _ _ _ h => h) rfl (wt0 rfl) (x_move rfl) rfl rfl fun a_64 HE65 => ?_
      refine dr_take (i := 1) (ls' := #[true, true, false, false, false, false, false, false, false, false, false]) HE65 HS63 rfl (by kernel_rfl) (by kernel_rfl) (by kernel_rfl) (fun _ _ _ h => h) rfl (wt0 rfl) (x_move rfl) rfl rfl fun a_66 HE67 => ?_
      refine dr_take (i := 2) (ls' := #[true, true, true, false, false, false, false, false, false, false, false]) HE67 HS63 rfl (by kernel_rfl) (by kernel_rfl) (by kernel_rfl) (fun _ _ _ h => h) rfl (wt0 rfl) (x_nilCheck rfl) rfl rfl fun a_68 HE69 => ?_
      refine dr_take (i := 3) (ls' := #[true, true, true, true, false, false, false, false, false, false, false]) HE69 HS63 rfl (by kernel_rfl) (by kernel_rfl) (by kernel_rfl) (fun _ _ _ h => h) rfl (wt0 rfl) (x_fieldAddr fa_55_0 rfl) rfl rfl fun a_70 HE71 => ?_
      refine dr_take (i := 4) (ls' := #[true, true, true, true, true, false, false, false, false, false, false]) HE71 HS63 rfl (by kernel_rfl) (by kernel_rfl) (by kernel_rfl) (fun _ _ _ h => h) rfl (wt0 rfl) (x_load1 tv_2 rfl (c_blk 3 rfl rfl)) rfl rfl fun a_72 HE73 => ?_
      refine dr_take (i := 5) (ls' := #[true, true, true, true, true, true, false, false, false, false, false]) HE73 HS63 rfl (by kernel_rfl) (by kernel_rfl) (by kernel_rfl) (fun _ _ _ h => h) rfl (wt0 rfl) (x_move rfl) rfl rfl fun a_74 HE75 => ?_
      refine dr_one (i := 6) (ls' := #[true, true, true, true, true, true, true, false, false, false, false]) rfl (by kernel_rfl) rfl fun K_76 hK77 => ?_
      refine st_call HE75 (wt0 rfl) rfl rfl rfl en_91 rfl rfl (impl_size_Instr _ _ _ _) fun e w' hr => ?_
      obtain ⟨rfl, rfl⟩ := hr
      refine ⟨_, rfl, fun a_78 HE79 => hK77 _ _ (by exact HH62.sel [0, 1, 2, 3] (by decide) rfl) ?_⟩
      have HS80 := HH62.sel [0, 1, 2, 3] (by decide) rfl
      refine dr_take (i := 7) (ls' := #[true, true, true, true, true, true, true, true, false, false, false]) HE79 HS80 rfl (by kernel_rfl) (by kernel_rfl) (by kernel_rfl) (fun _ _ _ h => h) rfl (wt0 rfl) (x_eql rfl rfl) rfl rfl fun a_81 HE82 => ?_
      refine dr_take (i := 8) (ls' := #[true, true, true, true, true, true, true, true, true, false, false]) HE82 HS80 rfl (by kernel_rfl) (by kernel_rfl) (by kernel_rfl) (fun _ _ _ h => h) rfl (wt0 rfl) (x_assign rfl) rfl rfl fun a_83 HE84 => ?_
      refine dr_take (i := 9) (ls' := #[true, true, true, true, true, true, true, true, true, true, false]) HE84 HS80 rfl (by kernel_rfl) (by kernel_rfl) (by kernel_rfl) (fun _ _ _ h => h) rfl (wt0 rfl) (x_assign rfl) rfl rfl fun a_85 HE86 => ?_
      refine dr_take (i := 10) (ls' := #[true, true, true, true, true, true, true, true, true, true, true]) HE86 HS80 rfl (by kernel_rfl) (by kernel_rfl) (by kernel_rfl) (fun _ _ _ h => h) rfl (wt0 rfl) (x_assign rfl) rfl rfl fun a_87 HE88 => ?_
      refine dr_done (by kernel_rfl) ?_
      clear HH33 HS49 a_60 HE61 a_64 HE65 a_66 HE67 a_68 HE69 a_70 HE71 a_72 HE73 a_74 HE75 HS63 a_78 HE79 a_81 HE82 a_83 HE84 a_85 HE86 hK77 K_76
      refine nrm ?_
      refine wp_ret ?_
      refine (thn_ret (blk_ret (thn_ret (thn_ret (blk_ret ?_)))))
      refine ret3 HE88 rfl (rv_tmp rfl) (rv_tmp rfl) (rv_tmp rfl) ?_
      have HH89 := HH62.sel [2, 0, 1, 3] (by decide) rfl
      have HH90 := HH89.pairF (E := eInt) (c1 := [.int .i64 (y.1)]) (x := y.1) (oI (by exact ⟨by omega, by omega⟩))
      obtain ⟨S26, HH91⟩ : ∃ S, Held M w (rO eStore S [.int .i64 (y.1), .slice A_1_1 ((List.length y.2)) c_1_1] y :: _) _ := ⟨_, HH90⟩
      have hF : (traceS a0 a1 a2 a4) = ((k : Int), (y.1 == (a0.length : Int)), 0, y, (snocS y l)) := by
        rw [p21_2, traceF_eq]; unfold snocS; grind
      exact ⟨_, _, _, _, _, by rw [hF] <;> rfl, by rw [hF]; exact HH91.sel [3, 0, 1, 2] (by decide) rfl⟩
    · refine dr_take (i := 8) (ls' := #[true, true, true, true, true, true, true, true, true, false, false, false]) HE53 HS49 rfl (by kernel_rfl) (by kernel_rfl) (by kernel_rfl) (fun _ _ _ h => h) rfl (wtT HE53 rfl rfl rfl (beq_f hc24)) (x_move rfl) rfl rfl fun a_92 HE93 => ?_
      refine dr_take (i := 9) (ls' := #[true, true, true, true, true, true, true, true, true, true, false, false]) HE93 HS49 rfl (by kernel_rfl) (by kernel_rfl) (by kernel_rfl) (fun _ _ _ h => h) rfl (wtT HE93 rfl rfl rfl (beq_f hc24)) (x_move rfl) rfl rfl fun a_94 HE95 => ?_
      refine dr_take (i := 10) (ls' := #[true, true, true, true, true, true, true, true, true, true, true, false]) HE95 HS49 rfl (by kernel_rfl) (by kernel_rfl) (by kernel_rfl) (fun _ _ _ h => h) rfl (wtT HE95 rfl rfl rfl (beq_f hc24)) (x_eql rfl rfl) rfl rfl fun a_96 HE97 => ?_
      refine dr_take (i := 11) (ls' := #[true, true, true, true, true, true, true, true, true, true, true, true]) HE97 HS49 rfl (by kernel_rfl) (by kernel_rfl) (by kernel_rfl) (fun _ _ _ h => h) rfl (wt0 rfl) (x_pickF rfl (beq_f hc24) rfl) rfl rfl fun a_98 HE99 => ?_
      refine dr_done (by kernel_rfl) ?_
      clear HH30 a_31 HE32 a_35 HE36 a_37 HE38 a_39 HE40 a_41 HE42 a_43 HE44 HS34 a_47 HE48 a_50 HE51 a_52 HE53 a_92 HE93 a_94 HE95 a_96 HE97 hK46 K_45
      refine nrm ?_
      refine cnd_e HE99 rfl (fun hc27 => ?_) (fun hc27 => ?_)
      · refine wp_seq ?_
        refine dr_start (Held M w [rBlk p4 52 [.slice Ar22_0 ((List.length (snocS y l))) cr22_0], rVec eStore 55 Sr22_0 Ar22_0 cr22_0 (snocS y l), rSo eInt S_1_1 A_1_1 c_1_1 y.2, rBlk p1 55 [.int .i64 (y.1), .slice A_1_1 ((List.length y.2)) c_1_1]]) 11 #[false, false, false, false, false, false, false, false, false, false, false] hmix rfl rfl HH33 (fun _ h => h.sel [0, 1, 2, 3] (by decide) rfl) fun w' HH100 => ?_
        have HS101 := HH100
        refine dr_take (i := 0) (ls' := #[true, false, false, false, false, false, false, false, false, false, false]) HE99 HS101 rfl (by kernel_rfl) (by kernel_rfl) (by kernel_rfl) (fun _ _ _ h => h) rfl (wt0 rfl) (x_move rfl) rfl rfl fun a_102 HE103 => ?_
        refine dr_take (i := 1) (ls' := #[true, true, false, false, false, false, false, false, false, false, false]) HE103 HS101 rfl (by kernel_rfl) (by kernel_rfl) (by kernel_rfl) (fun _ _ _ h => h) rfl (wt0 rfl) (x_move rfl) rfl rfl fun a_104 HE105 => ?_
        refine dr_take (i := 2) (ls' := #[true, true, true, false, false, false, false, false, false, false, false]) HE105 HS101 rfl (by kernel_rfl) (by kernel_rfl) (by kernel_rfl) (fun _ _ _ h => h) rfl (wt0 rfl) (x_nilCheck rfl) rfl rfl fun a_106 HE107 => ?_
        refine dr_take (i := 3) (ls' := #[true, true, true, true, false, false, false, false, false, false, false]) HE107 HS101 rfl (by kernel_rfl) (by kernel_rfl) (by kernel_rfl) (fun _ _ _ h => h) rfl (wt0 rfl) (x_fieldAddr fa_55_0 rfl) rfl rfl fun a_108 HE109 => ?_
        refine dr_take (i := 4) (ls' := #[true, true, true, true, true, false, false, false, false, false, false]) HE109 HS101 rfl (by kernel_rfl) (by kernel_rfl) (by kernel_rfl) (fun _ _ _ h => h) rfl (wt0 rfl) (x_load1 tv_2 rfl (c_blk 3 rfl rfl)) rfl rfl fun a_110 HE111 => ?_
        refine dr_take (i := 5) (ls' := #[true, true, true, true, true, true, false, false, false, false, false]) HE111 HS101 rfl (by kernel_rfl) (by kernel_rfl) (by kernel_rfl) (fun _ _ _ h => h) rfl (wt0 rfl) (x_move rfl) rfl rfl fun a_112 HE113 => ?_
        refine dr_one (i := 6) (ls' := #[true, true, true, true, true, true, true, false, false, false, false]) rfl (by kernel_rfl) rfl fun K_114 hK115 => ?_
        refine st_call HE113 (wt0 rfl) rfl rfl rfl en_91 rfl rfl (impl_size_Instr _ _ _ _) fun e w' hr => ?_
        obtain ⟨rfl, rfl⟩ := hr
        refine ⟨_, rfl, fun a_116 HE117 => hK115 _ _ (by exact HH100.sel [0, 1, 2, 3] (by decide) rfl) ?_⟩
        have HS118 := HH100.sel [0, 1, 2, 3] (by decide) rfl
        refine dr_take (i := 7) (ls' := #[true, true, true, true, true, true, true, true, false, false, false]) HE117 HS118 rfl (by kernel_rfl) (by kernel_rfl) (by kernel_rfl) (fun _ _ _ h => h) rfl (wt0 rfl) (x_eql rfl rfl) rfl rfl fun a_119 HE120 => ?_
        refine dr_take (i := 8) (ls' := #[true, true, true, true, true, true, true, true, true, false, false]) HE120 HS118 rfl (by kernel_rfl) (by kernel_rfl) (by kernel_rfl) (fun _ _ _ h => h) rfl (wt0 rfl) (x_assign rfl) rfl rfl fun a_121 HE122 => ?_
        refine dr_take (i := 9) (ls' := #[true, true, true, true, true, true, true, true, true, true, false]) HE122 HS118 rfl (by kernel_rfl) (by kernel_rfl) (by kernel_rfl) (fun _ _ _ h => h) rfl (wt0 rfl) (x_assign rfl) rfl rfl fun a_123 HE124 => ?_
        refine dr_take (i := 10) (ls' := #[true, true, true, true, true, true, true, true, true, true, true]) HE124 HS118 rfl (by kernel_rfl) (by kernel_rfl) (by kernel_rfl) (fun _ _ _ h => h) rfl (wt0 rfl) (x_assign rfl) rfl rfl fun a_125 HE126 => ?_
        refine dr_done (by kernel_rfl) ?_
        clear HH33 HS49 a_98 HE99 a_102 HE103 a_104 HE105 a_106 HE107 a_108 HE109 a_110 HE111 a_112 HE113 HS101 a_116 HE117 a_119 HE120 a_121 HE122 a_123 HE124 hK115 K_114
        refine nrm ?_
        refine wp_ret ?_
        refine (thn_ret (blk_ret (thn_ret (thn_ret (blk_ret ?_)))))
        refine ret3 HE126 rfl (rv_tmp rfl) (rv_tmp rfl) (rv_tmp rfl) ?_
        have HH127 := HH100.sel [2, 0, 1, 3] (by decide) rfl
        have HH128 := HH127.pairF (E := eInt) (c1 := [.int .i64 (y.1)]) (x := y.1) (oI (by exact ⟨by omega, by omega⟩))
        obtain ⟨S29, HH129⟩ : ∃ S, Held M w (rO eStore S [.int .i64 (y.1), .slice A_1_1 ((List.length y.2)) c_1_1] y :: _) _ := ⟨_, HH128⟩
        have hF : (traceS a0 a1 a2 a4) = ((k : Int), (y.1 == (a0.length : Int)), 0, y, (snocS y l)) := by
          rw [p21_2, traceF_eq]; unfold snocS; grind
        exact ⟨_, _, _, _, _, by rw [hF] <;> rfl, by rw [hF]; exact HH129.sel [3, 0, 1, 2] (by decide) rfl⟩
      · refine wp_skip ?_
        refine nrm ?_
        refine wp_seq ?_
        refine rg ?_
        refine pl_x HE99 HH33 (wt0 rfl) (x_move rfl) rfl rfl fun a_130 HE131 => ?_
        refine pl_x HE131 HH33 (wt0 rfl) (x_move rfl) rfl rfl fun a_132 HE133 => ?_
        refine pl fun K_134 hK135 => ?_
        have HH136 := HH33.sel [2, 0, 1, 3] (by decide) rfl
        have HH137 := HH136.pairF (E := eInt) (c1 := [.int .i64 (y.1)]) (x := y.1) (oI (by exact ⟨by omega, by omega⟩))
        obtain ⟨S30, HH138⟩ : ∃ S, Held M w (rO eStore S [.int .i64 (y.1), .slice A_1_1 ((List.length y.2)) c_1_1] y :: _) _ := ⟨_, HH137⟩
        have HH139 := HH138.sel [3, 0, 1, 2] (by decide) rfl
        have HH140 : Held M w ([rBlk p1 55 [.int .i64 (y.1), .slice A_1_1 ((List.length y.2)) c_1_1], rO eStore S30 [.int .i64 (y.1), .slice A_1_1 ((List.length y.2)) c_1_1] y] ++ [rBlk p4 52 [.slice Ar22_0 ((List.length (snocS y l))) cr22_0], rVec eStore 55 Sr22_0 Ar22_0 cr22_0 (snocS y l)]) _ := HH139
        refine st_call HE133 (wt0 rfl) rfl rfl rfl en_191 rfl rfl (impl_stepStore (Foot [rBlk p1 55 [.int .i64 (y.1), .slice A_1_1 ((List.length y.2)) c_1_1], rO eStore S30 [.int .i64 (y.1), .slice A_1_1 ((List.length y.2)) c_1_1] y]) _ _ a0 _ _ y _ _ HH140.focus (HH140.lendM h0) (by first | exact s0 | exact validStore_prog ‹_›) (by first | assumption | exact validStore_of ‹_›) (by omega)) fun e w' hr => ?_
        obtain ⟨esr31_0, Sr31_0, rfl, hbr31⟩ := hr
        have HH141 := HH140.back hbr31
        clear hbr31
        have Rr31 := HH141.rd (i := 1) rfl
        obtain ⟨Ar31_0_1, cr31_0_1, rfl, gr31_0_0, gr31_0_1⟩ := shape_Store Rr31
        clear Rr31
        have jr31_0_0 := gr31_0_0; unfold I64 at jr31_0_0
        have HH142 : Held M w ([rBlk p1 55 [.int .i64 ((stepS a0 y).2.1), .slice Ar31_0_1 ((stepS a0 y).2.2.length) cr31_0_1], rO eStore Sr31_0 [.int .i64 ((stepS a0 y).2.1), .slice Ar31_0_1 ((stepS a0 y).2.2.length) cr31_0_1] ((stepS a0 y).2)] ++ [rBlk p4 52 [.slice Ar22_0 ((List.length (snocS y l))) cr22_0], rVec eStore 55 Sr22_0 Ar22_0 cr22_0 (snocS y l)]) _ := HH141
        have HH143 := HH142.sel [1, 0, 2, 3] (by decide) rfl
        have HH144 := HH143.unF rfl
        refine ⟨_, rfl, fun a_145 HE146 => hK135 _ _ ?_⟩
        refine pl_x HE146 HH144 (wt0 rfl) (x_not rfl) rfl rfl fun a_147 HE148 => ?_
        refine wpList_nil ?_
        clear a_98 HE99 a_130 HE131 HH33 HH136 HH137 HH138 HH139 HH140 HH141 HH142 HH143 a_132 HE133 a_145 HE146 hK135 K_134
        refine nrm ?_
        refine cnd_nb HE148 rfl (fun hc32 => ?_) (fun hc32 => ?_)
        · refine wp_seq ?_
          refine rg ?_
          refine pl_x HE148 HH144 (wt0 rfl) (x_assign rfl) rfl rfl fun a_149 HE150 => ?_
          refine pl_x HE150 HH144 (wt0 rfl) (x_assign rfl) rfl rfl fun a_151 HE152 => ?_
          refine pl_x HE152 HH144 (wt0 rfl) (x_assign rfl) rfl rfl fun a_153 HE154 => ?_
          refine wpList_nil ?_
          clear a_147 HE148 a_149 HE150 a_151 HE152
          refine nrm ?_
          refine wp_ret ?_
          refine (blk_ret (thn_ret (thn_ret (blk_ret ?_))))
          refine ret3 HE154 rfl (rv_tmp rfl) (rv_tmp rfl) (rv_tmp rfl) ?_
          have HH155 := HH144.pairF (E := eInt) (c1 := [.int .i64 ((stepS a0 y).2.1)]) (x := (stepS a0 y).2.1) (oI (by exact ⟨by omega, by omega⟩))
          obtain ⟨S33, HH156⟩ : ∃ S, Held M w (rO eStore S [.int .i64 ((stepS a0 y).2.1), .slice Ar31_0_1 ((stepS a0 y).2.2.length) cr31_0_1] ((stepS a0 y).2) :: _) _ := ⟨_, HH155⟩
          have hF : (traceS a0 a1 a2 a4) = (0, false, 5, (stepS a0 y).2, (snocS y l)) := by
            rw [p21_2, traceF_eq]; unfold snocS; grind
          exact ⟨_, _, _, _, _, by rw [hF] <;> rfl, by rw [hF]; exact HH156.sel [1, 0, 2, 3] (by decide) rfl⟩
        · refine wp_skip ?_
          refine blk_n ?_
          refine nrm ?_
          refine rg ?_
          refine pl_x HE148 HH144 (wt0 rfl) (x_move rfl) rfl rfl fun a_157 HE158 => ?_
          refine pl_x HE158 HH144 (wt0 rfl) (x_add rfl rfl (by exact ⟨by omega, by omega⟩)) rfl rfl fun a_159 HE160 => ?_
          refine pl_x HE160 HH144 (wt0 rfl) (x_assign rfl) rfl rfl fun a_161 HE162 => ?_
          refine wpList_nil ?_
          clear a_147 HE148 a_157 HE158 a_159 HE160
          have E34 : ((stepS a0 y).2).2 = (stepS a0 y).2.2 := by
            first | rfl | simp
          have E35 : ((snocS y l)) = (snocS y l) := by
            first | rfl | simp
          exact nrm ⟨(a2 - ((k + 1) : Int)).toNat, (by omega), k + 1, (stepS a0 y).2, (snocS y l), Ar31_0_1, cr31_0_1, Sr31_0, Ar22_0, cr22_0, Sr22_0, rfl, HE162.sub ⟨(lkI rfl (by first | rfl | omega | (simp [p21_0, p21_1, p21_2, p21_3, hc24, hc27, hc32]; done))), rfl, rfl, rfl, rfl, trivial⟩, ((HH144.sel [0, 3, 1, 2] (by decide) rfl).to (by first | rfl | (rw [E34, E35]; done) | (rw [E34, E35]; rfl) | (simp only [E34, E35]; done) | (simp only [E34, E35]; rfl))), (by first | omega | assumption | (simp; done) | simp_all), (by exact storeOf_step s0 p21_1 (by omega) hc32), (by rw [p21_2, traceF_step (g := (a2 - ((k + 1 : Nat) : Int)).toNat) (by omega) (by omega) hc32]; simp [snocS]), (by unfold snocS; simp; omega)⟩

set_option maxRecDepth 100000 in
set_option maxHeartbeats 4000000 in
theorem impl_TraceProgram (A0 : Option Addr) (c0 : Nat) (a0 : (List tInstr)) (es1 : List Value) (a1 : tStore) (a2 : Int) (w : World) (h0 : Sl eInstr w (Old w) A0 c0 a0) (h1 : eStore.R w (Old w) es1 a1) :
    Calls Try.prog 39 #[.slice A0 a0.length c0, .agg es1.toArray, .int .i64 a2] w fun e w' => ∃ (A0' : Option Addr) (c0' : Nat), e = .returned (.tuple #[.slice A0' (traceProg a0 a1 a2).1.length c0', .int .i64 (traceProg a0 a1 a2).2]) ∧ So eStore w' (Fr w w') A0' c0' (traceProg a0 a1 a2).1 ∧ Below w.heap.size w w' := by
  have l0 := h0.len
  have H1 := h1
  obtain ⟨Az1_1, cz1_1, rfl, gz1_0, gz1_1⟩ := shape_Store h1
  have jz1_0 := gz1_0; unfold I64 at jz1_0
  have lz1_1 := gz1_1.len
  have HH1 := Held.start Nob w
  refine enter (n := 35) Try.func39 rfl rfl rfl fun a_2 HE3 => ?_
  refine wp_seq ?_
  refine rg ?_
  refine pl fun K_4 hK5 => ?_
  refine st_box (cs := [.int .i64 (a1.1), .slice Az1_1 (a1.2.length) cz1_1]) HE3 HH1 rfl rfl (wt0 rfl) rfl fun q21 a_6 w' HE7 HH8 => hK5 _ _ ?_
  refine pl_x HE7 HH8 (wt0 rfl) (x_assign rfl) rfl rfl fun a_9 HE10 => ?_
  refine pl_x HE10 HH8 (wt0 rfl) (x_assign rfl) rfl rfl fun a_11 HE12 => ?_
  refine wpList_nil ?_
  clear a_2 HE3 HH1 a_6 HE7 a_9 HE10 hK5 K_4
  refine nrm ?_
  refine wp_seq ?_
  refine wp_seq ?_
  refine rg ?_
  refine pl_x HE12 HH8 (wt0 rfl) (x_move rfl) rfl rfl fun a_13 HE14 => ?_
  refine pl_x HE14 HH8 (wt0 rfl) (x_loadN (cs := [.int .i64 (a1.1), .slice Az1_1 (a1.2.length) cz1_1]) tv_55 rfl rfl (c_blkN 0 rfl)) rfl rfl fun a_15 HE16 => ?_
  refine pl fun K_17 hK18 => ?_
  refine st_call HE16 (wt0 rfl) rfl rfl rfl en_111 rfl rfl (impl_ValidStore _ _ a0 [.int .i64 (a1.1), .slice Az1_1 (a1.2.length) cz1_1] a1 _ (HH8.old h0) (HH8.oldR H1)) fun e w' hr => ?_
  obtain ⟨rfl, hbr22⟩ := hr
  have HH19 := HH8.on hbr22
  refine ⟨_, rfl, fun a_20 HE21 => hK18 _ _ ?_⟩
  refine pl_x HE21 HH19 (wt0 rfl) (x_not rfl) rfl rfl fun a_22 HE23 => ?_
  refine wpList_nil ?_
  clear a_11 HE12 a_13 HE14 HH8 a_15 HE16 a_20 HE21 hK18 K_17
  refine nrm ?_
  refine cnd_nb HE23 rfl (fun hc23 => ?_) (fun hc23 => ?_)
  · refine wp_seq ?_
    refine rg ?_
    refine pl_x HE23 HH19 (wt0 rfl) (x_assign rfl) rfl rfl fun a_24 HE25 => ?_
    refine pl_x HE25 HH19 (wt0 rfl) (x_assign rfl) rfl rfl fun a_26 HE27 => ?_
    refine wpList_nil ?_
    clear a_22 HE23 a_24 HE25
    refine nrm ?_
    refine wp_ret ?_
    refine (thn_ret ?_)
    refine ret2 HE27 rfl (rv_tmp rfl) (rv_tmp rfl) ?_
    have hF : (traceProg a0 a1 a2) = ([], 1) := by
      first | (simp [traceProg, hc23]; done) | grind [traceProg]
    exact ⟨none, 0, by rw [hF] <;> rfl, by rw [hF]; exact (So.nil (Nat.zero_le _)), HH19.below⟩
  · obtain ⟨v0, v1, v2, v3⟩ := storeOf_facts (validStore_of hc23)
    refine wp_skip ?_
    refine nrm ?_
    refine wp_seq ?_
    refine wp_seq ?_
    refine rg ?_
    refine pl_x HE23 HH19 (wt0 rfl) (x_move rfl) rfl rfl fun a_28 HE29 => ?_
    refine pl fun K_30 hK31 => ?_
    refine st_call HE29 (wt0 rfl) rfl rfl rfl en_112 rfl rfl (impl_within a2 0 60 _ ) fun e w' hr => ?_
    obtain ⟨rfl, rfl⟩ := hr
    refine ⟨_, rfl, fun a_32 HE33 => hK31 _ _ ?_⟩
    refine pl_x HE33 HH19 (wt0 rfl) (x_not rfl) rfl rfl fun a_34 HE35 => ?_
    refine wpList_nil ?_
    clear a_22 HE23 a_28 HE29 a_32 HE33 hK31 K_30
    refine nrm ?_
    refine cnd_nb HE35 rfl (fun hc25 => ?_) (fun hc25 => ?_)
    · refine wp_seq ?_
      refine rg ?_
      refine pl_x HE35 HH19 (wt0 rfl) (x_assign rfl) rfl rfl fun a_36 HE37 => ?_
      refine pl_x HE37 HH19 (wt0 rfl) (x_assign rfl) rfl rfl fun a_38 HE39 => ?_
      refine wpList_nil ?_
      clear a_34 HE35 a_36 HE37
      refine nrm ?_
      refine wp_ret ?_
      refine (thn_ret ?_)
      refine ret2 HE39 rfl (rv_tmp rfl) (rv_tmp rfl) ?_
      have hF : (traceProg a0 a1 a2) = ([], 2) := by
        first | (simp [traceProg, hc23, hc25]; done) | grind [traceProg]
      exact ⟨none, 0, by rw [hF] <;> rfl, by rw [hF]; exact (So.nil (Nat.zero_le _)), HH19.below⟩
    · have hW := withinB_true.1 hc25
      refine wp_skip ?_
      refine nrm ?_
      refine wp_seq ?_
      refine rg ?_
      refine pl_x HE35 HH19 (wt0 rfl) (x_loadN (cs := [.int .i64 (a1.1), .slice Az1_1 (a1.2.length) cz1_1]) tv_55 rfl rfl (c_blkN 0 rfl)) rfl rfl fun a_40 HE41 => ?_
      refine pl fun K_42 hK43 => ?_
      refine st_call HE41 (wt0 rfl) rfl rfl rfl en_113 rfl rfl (impl_copyStore [.int .i64 (a1.1), .slice Az1_1 (a1.2.length) cz1_1] a1 _ (HH19.oldR H1) (by omega)) fun e w' hr => ?_
      obtain ⟨esr26_0, rfl, hor26_0, hbr26⟩ := hr
      have hr := eStore.read hor26_0
      obtain ⟨Sr26, HH44⟩ := HH19.newO hbr26 hor26_0
      obtain ⟨Ar26_0_1, cr26_0_1, rfl, gr26_0_0, gr26_0_1⟩ := shape_Store hr
      have jr26_0_0 := gr26_0_0; unfold I64 at jr26_0_0
      have HH45 := HH44.unF rfl
      refine ⟨_, rfl, fun a_46 HE47 => hK43 _ _ ?_⟩
      refine pl fun K_48 hK49 => ?_
      refine st_lit (m := 0) (cs := []) (e := 55) HE47 HH45 (run_lit ts_52 HE47 (vs := []) rfl rfl (by simp [Value.cells]) rfl (by decide)) (wt0 rfl) rfl rfl fun q27 a_50 w' HE51 HH52 => hK49 _ _ ?_
      refine pl fun K_53 hK54 => ?_
      refine st_alloc HE51 HH52 tv_55 (wt0 rfl) rfl fun q28 a_55 w' HE56 HH57 => hK54 _ _ ?_
      refine pl fun K_58 hK59 => ?_
      refine st_alloc HE56 HH57 tv_52 (wt0 rfl) rfl fun q29 a_60 w' HE61 HH62 => hK59 _ _ ?_
      refine pl fun K_63 hK64 => ?_
      refine st_store (vs := [.int .i64 (a1.1), .slice Ar26_0_1 (a1.2.length) cr26_0_1]) 1 HE61 HH62 tv_55 rfl rfl rfl rfl rfl rfl (by simp [Value.oneCell']) (wt0 rfl) fun w' HH65 => hK64 _ _ ?_
      refine pl fun K_66 hK67 => ?_
      refine st_store (vs := [.slice (some ⟨q27, 0, none⟩) (0) 0]) 0 HE61 HH65 tv_52 rfl rfl rfl rfl rfl rfl (by simp [Value.oneCell']) (wt0 rfl) fun w' HH68 => hK67 _ _ ?_
      refine wpList_nil ?_
      clear a_34 HE35 HH19 HH44 a_40 HE41 K_42 hK43 a_46 HE47 HH45 K_48 hK49 a_50 HE51 HH52 K_53 hK54 a_55 HE56 HH57 K_58 hK59 HH62 K_63 hK64 HH65 hK67 K_66
      refine nrm ?_
      refine wp_seq ?_
      refine rg ?_
      refine pl_x HE61 HH68 (wt0 rfl) (x_move rfl) rfl rfl fun a_69 HE70 => ?_
      refine pl_x HE70 HH68 (wt0 rfl) (x_move rfl) rfl rfl fun a_71 HE72 => ?_
      refine pl_x HE72 HH68 (wt0 rfl) (x_makeFunc rfl rfl) rfl rfl fun a_73 HE74 => ?_
      refine pl fun K_75 hK76 => ?_
      have HH77 := HH68.sel [3, 0, 1, 2, 4] (by decide) rfl
      have HH78 := HH77.pairF (E := eInt) (c1 := [.int .i64 (a1.1)]) (x := a1.1) (oI (by exact ⟨by omega, by omega⟩))
      obtain ⟨S30, HH79⟩ : ∃ S, Held Nob w (rO eStore S [.int .i64 (a1.1), .slice Ar26_0_1 (a1.2.length) cr26_0_1] a1 :: _) _ := ⟨_, HH78⟩
      have HH80 := HH79.sel [3, 0, 1, 2, 4] (by decide) rfl
      have HH81 := Held.vecFlat (E := eStore) (xs := []) (css := []) HH80 rfl (Nat.zero_le _) (fun i x hx => by simp at hx)
      have HH82 := HH81.sel [3, 1, 2, 0, 4] (by decide) rfl
      have HH83 : Held Nob w ([rBlk q28 55 [.int .i64 (a1.1), .slice Ar26_0_1 (a1.2.length) cr26_0_1], rO eStore S30 [.int .i64 (a1.1), .slice Ar26_0_1 (a1.2.length) cr26_0_1] a1, rBlk q29 52 [.slice (some ⟨q27, 0, none⟩) (0) 0], rVec eStore 55 (fun b => b = q27) (some ⟨q27, 0, none⟩) (List.length (α := tStore) []) ([] : List tStore)] ++ [rBlk q21 55 [.int .i64 (a1.1), .slice Az1_1 (a1.2.length) cz1_1]]) _ := HH82
      refine st_call HE74 (wt0 rfl) rfl rfl rfl en_114 rfl rfl (impl_runStoreT (Foot [rBlk q28 55 [.int .i64 (a1.1), .slice Ar26_0_1 (a1.2.length) cr26_0_1], rO eStore S30 [.int .i64 (a1.1), .slice Ar26_0_1 (a1.2.length) cr26_0_1] a1, rBlk q29 52 [.slice (some ⟨q27, 0, none⟩) (0) 0], rVec eStore 55 (fun b => b = q27) (some ⟨q27, 0, none⟩) (List.length (α := tStore) []) ([] : List tStore)]) _ _ a0 _ _ a1 _ a2 _ _ _ ([] : List tStore) _ _ HH83.focus (HH83.lend h0) (by exact validStore_prog ‹_›) (by exact validStore_of ‹_›) (by omega) (by first | omega | (simp; done))) fun e w' hr => ?_
      obtain ⟨esr31_0, Sr31_0, Ar31_1, cr31_1, Sr31_1, rfl, hbr31⟩ := hr
      have HH84 := HH83.back hbr31
      clear hbr31
      have Rr31 := HH84.rd (i := 1) rfl
      obtain ⟨Ar31_0_1, cr31_0_1, rfl, gr31_0_0, gr31_0_1⟩ := shape_Store Rr31
      clear Rr31
      have jr31_0_0 := gr31_0_0; unfold I64 at jr31_0_0
      have HH85 : Held Nob w ([rBlk q28 55 [.int .i64 ((traceS a0 a1 a2 ([] : List tStore)).2.2.2.1.1), .slice Ar31_0_1 ((traceS a0 a1 a2 ([] : List tStore)).2.2.2.1.2.length) cr31_0_1], rO eStore Sr31_0 [.int .i64 ((traceS a0 a1 a2 ([] : List tStore)).2.2.2.1.1), .slice Ar31_0_1 ((traceS a0 a1 a2 ([] : List tStore)).2.2.2.1.2.length) cr31_0_1] ((traceS a0 a1 a2 ([] : List tStore)).2.2.2.1), rBlk q29 52 [.slice Ar31_1 ((List.length ((traceS a0 a1 a2 ([] : List tStore)).2.2.2.2))) cr31_1], rVec eStore 55 Sr31_1 Ar31_1 cr31_1 ((traceS a0 a1 a2 ([] : List tStore)).2.2.2.2)] ++ [rBlk q21 55 [.int .i64 (a1.1), .slice Az1_1 (a1.2.length) cz1_1]]) _ := HH84
      have HH86 := HH85.sel [1, 0, 2, 3, 4] (by decide) rfl
      have HH87 := HH86.unF rfl
      refine ⟨_, rfl, fun a_88 HE89 => hK76 _ _ ?_⟩
      refine pl_x HE89 HH87 (wt0 rfl) (x_move rfl) rfl rfl fun a_90 HE91 => ?_
      refine pl_x HE91 HH87 (wt0 rfl) (x_extract rfl rfl) rfl rfl fun a_92 HE93 => ?_
      refine pl_x HE93 HH87 (wt0 rfl) (x_extract rfl rfl) rfl rfl fun a_94 HE95 => ?_
      refine pl_x HE95 HH87 (wt0 rfl) (x_extract rfl rfl) rfl rfl fun a_96 HE97 => ?_
      refine pl_x HE97 HH87 (wt0 rfl) (x_assign rfl) rfl rfl fun a_98 HE99 => ?_
      refine pl_x HE99 HH87 (wt0 rfl) (x_assign rfl) rfl rfl fun a_100 HE101 => ?_
      refine pl_x HE101 HH87 (wt0 rfl) (x_assign rfl) rfl rfl fun a_102 HE103 => ?_
      refine wpList_nil ?_
      clear a_60 HE61 a_69 HE70 a_71 HE72 HH68 HH77 HH78 HH79 HH80 HH81 HH82 HH83 HH84 HH85 HH86 a_73 HE74 a_88 HE89 a_90 HE91 a_92 HE93 a_94 HE95 a_96 HE97 a_98 HE99 a_100 HE101 hK76 K_75
      refine nrm ?_
      refine wp_seq ?_
      refine wp_seq ?_
      refine rg ?_
      refine pl_x HE103 HH87 (wt0 rfl) (x_move rfl) rfl rfl fun a_104 HE105 => ?_
      refine pl_x HE105 HH87 (wt0 rfl) (x_neq rfl rfl) rfl rfl fun a_106 HE107 => ?_
      refine wpList_nil ?_
      clear a_102 HE103 a_104 HE105
      refine nrm ?_
      refine cnd_ne HE107 rfl (fun hc32 => ?_) (fun hc32 => ?_)
      · refine wp_seq ?_
        refine rg ?_
        refine pl_x HE107 HH87 (wt0 rfl) (x_move rfl) rfl rfl fun a_108 HE109 => ?_
        refine pl_x HE109 HH87 (wt0 rfl) (x_assign rfl) rfl rfl fun a_110 HE111 => ?_
        refine pl_x HE111 HH87 (wt0 rfl) (x_assign rfl) rfl rfl fun a_112 HE113 => ?_
        refine wpList_nil ?_
        clear a_106 HE107 a_108 HE109 a_110 HE111
        refine nrm ?_
        refine wp_ret ?_
        refine (thn_ret ?_)
        refine ret2 HE113 rfl (rv_tmp rfl) (rv_tmp rfl) ?_
        have hF : (traceProg a0 a1 a2) = ([], (traceS a0 a1 a2 ([] : List tStore)).2.2.1) := by
          first | (simp [traceProg, hc23, hc25, hc32]; done) | grind [traceProg]
        exact ⟨none, 0, by rw [hF] <;> rfl, by rw [hF]; exact (So.nil (Nat.zero_le _)), HH87.below⟩
      · refine wp_skip ?_
        refine nrm ?_
        refine wp_seq ?_
        refine rg ?_
        refine pl_x HE107 HH87 (wt0 rfl) (x_load1 tv_52 rfl (c_blk 2 rfl rfl)) rfl rfl fun a_114 HE115 => ?_
        refine pl_x HE115 HH87 (wt0 rfl) (x_assign rfl) rfl rfl fun a_116 HE117 => ?_
        refine pl_x HE117 HH87 (wt0 rfl) (x_assign rfl) rfl rfl fun a_118 HE119 => ?_
        refine wpList_nil ?_
        clear a_106 HE107 a_114 HE115 a_116 HE117
        refine nrm ?_
        refine wp_ret ?_
        refine ret2 HE119 rfl (rv_tmp rfl) (rv_tmp rfl) ?_
        have HH120 := HH87.sel [3, 0, 1, 2, 4] (by decide) rfl
        have HH121 := HH120.vecSo
        have hF : (traceProg a0 a1 a2) = ((traceS a0 a1 a2 ([] : List tStore)).2.2.2.2, 0) := by
          first | (simp [traceProg, hc23, hc25, hc32]; done) | grind [traceProg]
        exact ⟨Ar31_1, cr31_1, by rw [hF] <;> rfl, by rw [hF]; exact (HH121.so (i := 0) rfl), HH121.below⟩

set_option maxRecDepth 100000 in
set_option maxHeartbeats 4000000 in
theorem spec_TraceProgram (A0 : Option Addr) (c0 : Nat) (a0 : (List tInstr)) (es1 : List Value) (a1 : tStore) (a2 : Int) (w : World) (h0 : Sl eInstr w (Old w) A0 c0 a0) (h1 : eStore.R w (Old w) es1 a1) :
    Calls Try.prog 37 #[.slice A0 a0.length c0, .agg es1.toArray, .int .i64 a2] w fun e w' => ∃ (A0' : Option Addr) (c0' : Nat), e = .returned (.tuple #[.slice A0' (traceProg a0 a1 a2).1.length c0', .int .i64 (traceProg a0 a1 a2).2]) ∧ So eStore w' (Fr w w') A0' c0' (traceProg a0 a1 a2).1 ∧ Below w.heap.size w w' := by
  have l0 := h0.len
  have H1 := h1
  obtain ⟨Az1_1, cz1_1, rfl, gz1_0, gz1_1⟩ := shape_Store h1
  have jz1_0 := gz1_0; unfold I64 at jz1_0
  have lz1_1 := gz1_1.len
  have HH1 := Held.start Nob w
  refine enter (n := 65) Try.func37 rfl rfl rfl fun a_2 HE3 => ?_
  refine wp_seq ?_
  refine rg ?_
  refine pl fun K_4 hK5 => ?_
  refine st_box (cs := [.int .i64 (a1.1), .slice Az1_1 (a1.2.length) cz1_1]) HE3 HH1 rfl rfl (wt0 rfl) rfl fun q21 a_6 w' HE7 HH8 => hK5 _ _ ?_
  refine pl_x HE7 HH8 (wt0 rfl) (x_assign rfl) rfl rfl fun a_9 HE10 => ?_
  refine pl_x HE10 HH8 (wt0 rfl) (x_assign rfl) rfl rfl fun a_11 HE12 => ?_
  refine wpList_nil ?_
  clear a_2 HE3 HH1 a_6 HE7 a_9 HE10 hK5 K_4
  refine nrm ?_
  refine wp_seq ?_
  refine rg ?_
  refine pl_x HE12 HH8 (wt0 rfl) (x_move rfl) rfl rfl fun a_13 HE14 => ?_
  refine pl fun K_15 hK16 => ?_
  refine st_call HE14 (wt0 rfl) rfl rfl rfl en_107 rfl rfl (spec_l07Ask _ _ a0 _ _ _ a1 _ (HH8.old h0) (HH8.oldR H1) (c_blkN 0 rfl _ HH8)) fun e w' hr => ?_
  obtain ⟨rfl, hbr22⟩ := hr
  have HH17 := HH8.on hbr22
  refine ⟨_, rfl, fun a_18 HE19 => hK16 _ _ ?_⟩
  refine pl_x HE19 HH17 (wt0 rfl) (x_assign rfl) rfl rfl fun a_20 HE21 => ?_
  refine wpList_nil ?_
  clear a_11 HE12 HH8 a_13 HE14 a_18 HE19 hK16 K_15
  refine nrm ?_
  refine wp_seq ?_
  refine wp_seq ?_
  refine rg ?_
  refine pl_x HE21 HH17 (wt0 rfl) (x_move rfl) rfl rfl fun a_22 HE23 => ?_
  refine pl_x HE23 HH17 (wt0 rfl) (x_eql rfl rfl) rfl rfl fun a_24 HE25 => ?_
  refine pl_x HE25 HH17 (wt0 rfl) (x_move rfl) rfl rfl fun a_26 HE27 => ?_
  by_cases hc23 : (askS a0 a1) = 0
  · have hV := askS_ok hc23
    obtain ⟨v0, v1, v2, v3⟩ := storeOf_facts (validStore_of hV)
    refine pl_x HE27 HH17 (wtT HE27 rfl rfl rfl (beq_t hc23)) (x_move rfl) rfl rfl fun a_28 HE29 => ?_
    refine pl fun K_30 hK31 => ?_
    refine st_call HE29 (wtT HE29 rfl rfl rfl (beq_t hc23)) rfl rfl rfl en_108 rfl rfl (spec_l00In a2 0 60 _ ) fun e w' hr => ?_
    obtain ⟨rfl, rfl⟩ := hr
    refine ⟨_, rfl, fun a_32 HE33 => hK31 _ _ ?_⟩
    refine pl_x HE33 HH17 (wtT HE33 rfl rfl rfl (beq_t hc23)) (x_not rfl) rfl rfl fun a_34 HE35 => ?_
    refine pl_x HE35 HH17 (wt0 rfl) (x_pickT rfl (beq_t hc23) rfl) rfl rfl fun a_36 HE37 => ?_
    refine wpList_nil ?_
    clear a_20 HE21 a_22 HE23 a_24 HE25 a_26 HE27 a_28 HE29 a_32 HE33 a_34 HE35 hK31 K_30
    refine nrm ?_
    refine cnd_nb HE37 rfl (fun hc25 => ?_) (fun hc25 => ?_)
    · refine rg ?_
      refine pl_x HE37 HH17 (wt0 rfl) (x_assign rfl) rfl rfl fun a_38 HE39 => ?_
      refine wpList_nil ?_
      clear a_36 HE37
      refine nrm ?_
      refine wp_seq ?_
      refine wp_seq ?_
      refine rg ?_
      refine pl_x HE39 HH17 (wt0 rfl) (x_move rfl) rfl rfl fun a_40 HE41 => ?_
      refine pl_x HE41 HH17 (wt0 rfl) (x_neq rfl rfl) rfl rfl fun a_42 HE43 => ?_
      refine wpList_nil ?_
      clear a_38 HE39 a_40 HE41
      refine nrm ?_
      refine cnd_ne HE43 rfl (fun hc26 => ?_) (fun hc26 => ?_)
      · refine wp_seq ?_
        refine rg ?_
        refine pl_x HE43 HH17 (wt0 rfl) (x_move rfl) rfl rfl fun a_44 HE45 => ?_
        refine pl_x HE45 HH17 (wt0 rfl) (x_assign rfl) rfl rfl fun a_46 HE47 => ?_
        refine pl_x HE47 HH17 (wt0 rfl) (x_assign rfl) rfl rfl fun a_48 HE49 => ?_
        refine wpList_nil ?_
        clear a_42 HE43 a_44 HE45 a_46 HE47
        refine nrm ?_
        refine wp_ret ?_
        refine (thn_ret ?_)
        refine ret2 HE49 rfl (rv_tmp rfl) (rv_tmp rfl) ?_
        have hF : (traceProg a0 a1 a2) = ([], 2) := by
          first | (simp [traceProg, hc23, hc25, hc26]; done) | grind [traceProg, askS] | (have hq := p0_2; rw [traceF_eq] at hq; unfold traceProg; grind [haltsS, stepS2])
        exact ⟨none, 0, by rw [hF] <;> rfl, by rw [hF]; exact (So.nil (Nat.zero_le _)), HH17.below⟩
      · refine wp_skip ?_
        refine nrm ?_
        refine wp_seq ?_
        refine dr_start (Held Nob w [rBlk q21 55 [.int .i64 (a1.1), .slice Az1_1 (a1.2.length) cz1_1]]) 8 #[false, false, false, false, false, false, false, false] hmix rfl rfl HH17 (fun _ h => h.sel [0] (by decide) rfl) fun w' HH50 => ?_
        have HS51 := HH50
        refine dr_take (i := 0) (ls' := #[true, false, false, false, false, false, false, false]) HE43 HS51 rfl (by kernel_rfl) (by kernel_rfl) (by kernel_rfl) (fun _ _ _ h => h) rfl (wt0 rfl) (x_fieldAddr fa_55_0 rfl) rfl rfl fun a_52 HE53 => ?_
        refine dr_take (i := 1) (ls' := #[true, true, false, false, false, false, false, false]) HE53 HS51 rfl (by kernel_rfl) (by kernel_rfl) (by kernel_rfl) (fun _ _ _ h => h) rfl (wt0 rfl) (x_load1 tv_2 rfl (c_blk 0 rfl rfl)) rfl rfl fun a_54 HE55 => ?_
        refine dr_take (i := 2) (ls' := #[true, true, true, false, false, false, false, false]) HE55 HS51 rfl (by kernel_rfl) (by kernel_rfl) (by kernel_rfl) (fun _ _ _ h => h) rfl (wt0 rfl) (x_fieldAddr fa_55_1 rfl) rfl rfl fun a_56 HE57 => ?_
        refine dr_take (i := 3) (ls' := #[true, true, true, true, false, false, false, false]) HE57 HS51 rfl (by kernel_rfl) (by kernel_rfl) (by kernel_rfl) (fun _ _ _ h => h) rfl (wt0 rfl) (x_load1 tv_31 rfl (c_blk 0 rfl rfl)) rfl rfl fun a_58 HE59 => ?_
        refine dr_one (i := 4) (ls' := #[true, true, true, true, true, false, false, false]) rfl (by kernel_rfl) rfl fun K_60 hK61 => ?_
        refine st_call HE59 (wt0 rfl) rfl rfl rfl en_100 rfl rfl (spec_l00Own _ _ a1.2 _ (HH50.old gz1_1) (by omega)) fun e w' hr => ?_
        obtain ⟨Ar27_0, cr27_0, rfl, hor27_0, hbr27⟩ := hr
        obtain ⟨Sr27, HH62⟩ := HH50.newS hbr27 hor27_0
        refine ⟨_, rfl, fun a_63 HE64 => hK61 _ _ (by exact HH62.sel [1] (by decide) rfl) ?_⟩
        have HS65 := HH62.sel [1] (by decide) rfl
        refine dr_take (i := 5) (ls' := #[true, true, true, true, true, true, false, false]) HE64 HS65 rfl (by kernel_rfl) (by kernel_rfl) (by kernel_rfl) (fun _ _ _ h => h) rfl (wt0 rfl) (show XS _ _ _ _ (.agg #[.int .i64 (a1.1), .slice Ar27_0 (a1.2.length) cr27_0]) from x_build (vs := [(0, .int .i64 (a1.1)), (1, .slice Ar27_0 (a1.2.length) cr27_0)]) tb_55 rfl (by simp [Value.oneCell'])) rfl rfl fun a_66 HE67 => ?_
        refine dr_one (i := 6) (ls' := #[true, true, true, true, true, true, true, false]) rfl (by kernel_rfl) rfl fun K_68 hK69 => ?_
        refine st_lit (m := 1) (cs := [.int .i64 (a1.1), .slice Ar27_0 (a1.2.length) cr27_0]) (e := 55) HE67 HH62 (run_lit ts_52 HE67 (vs := [.agg #[.int .i64 (a1.1), .slice Ar27_0 (a1.2.length) cr27_0]]) rfl rfl (by simp [Value.cells]) rfl (by decide)) (wt0 rfl) rfl rfl fun q28 a_70 w' HE71 HH72 => hK69 _ _ (by exact HH72.sel [2] (by decide) rfl) ?_
        have HS73 := HH72.sel [2] (by decide) rfl
        refine dr_take (i := 7) (ls' := #[true, true, true, true, true, true, true, true]) HE71 HS73 rfl (by kernel_rfl) (by kernel_rfl) (by kernel_rfl) (fun _ _ _ h => h) rfl (wt0 rfl) (x_assign rfl) rfl rfl fun a_74 HE75 => ?_
        refine dr_done (by kernel_rfl) ?_
        clear HH17 a_42 HE43 a_52 HE53 a_54 HE55 a_56 HE57 HH50 a_58 HE59 HS51 a_63 HE64 K_60 hK61 a_66 HE67 HH62 HS65 a_70 HE71 hK69 K_68
        refine nrm ?_
        refine wp_seq ?_
        refine wp_join (fun a w' => ∃ (q30 : Nat), ∃ (Ar29_0 : Option Addr), ∃ (cr29_0 : Nat), ∃ (Sr29 : Nat → Prop), Env 65 [(0, .slice A0 (a0.length) c0), (2, .int .i64 (a2)), (9, .slice (some ⟨q28, 0, none⟩) (1) 1), (10, .pointer (some ⟨q30, 0, none⟩))] a ∧ Held Nob w [rBlk q30 55 [.int .i64 (a1.1), .slice Ar29_0 (a1.2.length) cr29_0], rSo eInt Sr29 Ar29_0 cr29_0 a1.2, rBlk q28 55 [.int .i64 (a1.1), .slice Ar27_0 (a1.2.length) cr27_0], rSo eInt Sr27 Ar27_0 cr27_0 a1.2, rBlk q21 55 [.int .i64 (a1.1), .slice Az1_1 (a1.2.length) cz1_1]] w') ?_ ?_
        · refine dr_start (Held Nob w [rBlk q28 55 [.int .i64 (a1.1), .slice Ar27_0 (a1.2.length) cr27_0], rSo eInt Sr27 Ar27_0 cr27_0 a1.2, rBlk q21 55 [.int .i64 (a1.1), .slice Az1_1 (a1.2.length) cz1_1]]) 8 #[false, false, false, false, false, false, false, false] hmix rfl rfl HH72 (fun _ h => h.sel [0, 1, 2] (by decide) rfl) fun w' HH76 => ?_
          have HS77 := HH76
          refine dr_take (i := 0) (ls' := #[true, false, false, false, false, false, false, false]) HE75 HS77 rfl (by kernel_rfl) (by kernel_rfl) (by kernel_rfl) (fun _ _ _ h => h) rfl (wt0 rfl) (x_fieldAddr fa_55_0 rfl) rfl rfl fun a_78 HE79 => ?_
          refine dr_take (i := 1) (ls' := #[true, true, false, false, false, false, false, false]) HE79 HS77 rfl (by kernel_rfl) (by kernel_rfl) (by kernel_rfl) (fun _ _ _ h => h) rfl (wt0 rfl) (x_load1 tv_2 rfl (c_blk 2 rfl rfl)) rfl rfl fun a_80 HE81 => ?_
          refine dr_take (i := 2) (ls' := #[true, true, true, false, false, false, false, false]) HE81 HS77 rfl (by kernel_rfl) (by kernel_rfl) (by kernel_rfl) (fun _ _ _ h => h) rfl (wt0 rfl) (x_fieldAddr fa_55_1 rfl) rfl rfl fun a_82 HE83 => ?_
          refine dr_take (i := 3) (ls' := #[true, true, true, true, false, false, false, false]) HE83 HS77 rfl (by kernel_rfl) (by kernel_rfl) (by kernel_rfl) (fun _ _ _ h => h) rfl (wt0 rfl) (x_load1 tv_31 rfl (c_blk 2 rfl rfl)) rfl rfl fun a_84 HE85 => ?_
          refine dr_two (i := 4) (j := 6) (ls' := #[true, true, true, true, true, false, false, false]) (ls'' := #[true, true, true, true, false, false, true, false]) rfl rfl (by kernel_rfl) rfl rfl (fun K_86 hK87 => ?_) (fun K_86 hK87 => ?_)
          · refine st_call HE85 (wt0 rfl) rfl rfl rfl en_100 rfl rfl (spec_l00Own _ _ a1.2 _ (HH76.old gz1_1) (by omega)) fun e w' hr => ?_
            obtain ⟨Ar29_0, cr29_0, rfl, hor29_0, hbr29⟩ := hr
            obtain ⟨Sr29, HH88⟩ := HH76.newS hbr29 hor29_0
            refine ⟨_, rfl, fun a_89 HE90 => hK87 _ _ (by exact HH88.sel [1, 2, 3] (by decide) rfl) ?_⟩
            have HS91 := HH88.sel [1, 2, 3] (by decide) rfl
            refine dr_take (i := 5) (ls' := #[true, true, true, true, true, true, false, false]) HE90 HS91 rfl (by kernel_rfl) (by kernel_rfl) (by kernel_rfl) (fun _ _ _ h => h) rfl (wt0 rfl) (show XS _ _ _ _ (.agg #[.int .i64 (a1.1), .slice Ar29_0 (a1.2.length) cr29_0]) from x_build (vs := [(0, .int .i64 (a1.1)), (1, .slice Ar29_0 (a1.2.length) cr29_0)]) tb_55 rfl (by simp [Value.oneCell'])) rfl rfl fun a_92 HE93 => ?_
            refine dr_one (i := 6) (ls' := #[true, true, true, true, true, true, true, false]) rfl (by kernel_rfl) rfl fun K_94 hK95 => ?_
            refine st_alloc HE93 HH88 tv_55 (wt0 rfl) rfl fun q30 a_96 w' HE97 HH98 => hK95 _ _ (by exact HH98.sel [2, 3, 4] (by decide) rfl) ?_
            have HS99 := HH98.sel [2, 3, 4] (by decide) rfl
            refine dr_one (i := 7) (ls' := #[true, true, true, true, true, true, true, true]) rfl (by kernel_rfl) rfl fun K_100 hK101 => ?_
            refine st_store (vs := [.int .i64 (a1.1), .slice Ar29_0 (a1.2.length) cr29_0]) 0 HE97 HH98 tv_55 rfl rfl rfl rfl rfl rfl (by simp [Value.oneCell']) (wt0 rfl) fun w' HH102 => hK101 _ _ (by exact HH102.sel [2, 3, 4] (by decide) rfl) ?_
            have HS103 := HH102.sel [2, 3, 4] (by decide) rfl
            refine dr_done (by kernel_rfl) ?_
            clear HH72 HS73 a_74 HE75 a_78 HE79 a_80 HE81 a_82 HE83 HH76 a_84 HE85 HS77 a_89 HE90 K_86 hK87 a_92 HE93 HH88 HS91 K_94 hK95 HH98 HS99 hK101 K_100
            exact nrm ⟨_, _, _, _, HE97.sub ⟨rfl, rfl, rfl, rfl, trivial⟩, HH102.sel [0, 1, 2, 3, 4] (by decide) rfl⟩
          · refine st_alloc HE85 HH76 tv_55 (wt0 rfl) rfl fun q31 a_104 w' HE105 HH106 => hK87 _ _ (by exact HH106.sel [1, 2, 3] (by decide) rfl) ?_
            have HS107 := HH106.sel [1, 2, 3] (by decide) rfl
            refine dr_one (i := 4) (ls' := #[true, true, true, true, true, false, true, false]) rfl (by kernel_rfl) rfl fun K_108 hK109 => ?_
            refine st_call HE105 (wt0 rfl) rfl rfl rfl en_100 rfl rfl (spec_l00Own _ _ a1.2 _ (HH106.old gz1_1) (by omega)) fun e w' hr => ?_
            obtain ⟨Ar32_0, cr32_0, rfl, hor32_0, hbr32⟩ := hr
            obtain ⟨Sr32, HH110⟩ := HH106.newS hbr32 hor32_0
            refine ⟨_, rfl, fun a_111 HE112 => hK109 _ _ (by exact HH110.sel [2, 3, 4] (by decide) rfl) ?_⟩
            have HS113 := HH110.sel [2, 3, 4] (by decide) rfl
            refine dr_take (i := 5) (ls' := #[true, true, true, true, true, true, true, false]) HE112 HS113 rfl (by kernel_rfl) (by kernel_rfl) (by kernel_rfl) (fun _ _ _ h => h) rfl (wt0 rfl) (show XS _ _ _ _ (.agg #[.int .i64 (a1.1), .slice Ar32_0 (a1.2.length) cr32_0]) from x_build (vs := [(0, .int .i64 (a1.1)), (1, .slice Ar32_0 (a1.2.length) cr32_0)]) tb_55 rfl (by simp [Value.oneCell'])) rfl rfl fun a_114 HE115 => ?_
            refine dr_one (i := 7) (ls' := #[true, true, true, true, true, true, true, true]) rfl (by kernel_rfl) rfl fun K_116 hK117 => ?_
            refine st_store (vs := [.int .i64 (a1.1), .slice Ar32_0 (a1.2.length) cr32_0]) 1 HE115 HH110 tv_55 rfl rfl rfl rfl rfl rfl (by simp [Value.oneCell']) (wt0 rfl) fun w' HH118 => hK117 _ _ (by exact HH118.sel [2, 3, 4] (by decide) rfl) ?_
            have HS119 := HH118.sel [2, 3, 4] (by decide) rfl
            refine dr_done (by kernel_rfl) ?_
            clear HH72 HS73 a_74 HE75 a_78 HE79 a_80 HE81 a_82 HE83 a_84 HE85 HH76 HS77 K_86 hK87 HH106 a_104 HE105 HS107 a_111 HE112 K_108 hK109 HH110 HS113 hK117 K_116
            exact nrm ⟨_, _, _, _, HE115.sub ⟨rfl, rfl, rfl, rfl, trivial⟩, HH118.sel [1, 0, 2, 3, 4] (by decide) rfl⟩
        · rintro a_120 w' ⟨q30, Ar29_0, cr29_0, Sr29, HE121, HH122⟩
          refine nrm ?_
          refine wp_seq ?_
          refine wp_block ?_
          have HH123 := HH122.sel [3, 0, 1, 2, 4] (by decide) rfl
          have HH124 := HH123.pairF (E := eInt) (c1 := [.int .i64 (a1.1)]) (x := a1.1) (oI (by exact ⟨by omega, by omega⟩))
          obtain ⟨S33, HH125⟩ : ∃ S, Held Nob w (rO eStore S [.int .i64 (a1.1), .slice Ar27_0 (a1.2.length) cr27_0] a1 :: _) _ := ⟨_, HH124⟩
          have HH126 := HH125.sel [0, 3, 1, 2, 4] (by decide) rfl
          obtain ⟨S34, HH127⟩ := Held.vecLit (E := eStore) (g := q28) (t := 55) (ps := [(S33, [.int .i64 (a1.1), .slice Ar27_0 (a1.2.length) cr27_0], a1)]) HH126 (by unfold maxLen; simp)
          have HH128 : Held Nob w (rVec eStore 55 S34 (some ⟨q28, 0, none⟩) 1 ([a1] : List tStore) :: [rBlk q30 55 [.int .i64 (a1.1), .slice Ar29_0 (a1.2.length) cr29_0], rSo eInt Sr29 Ar29_0 cr29_0 a1.2, rBlk q21 55 [.int .i64 (a1.1), .slice Az1_1 (a1.2.length) cz1_1]]) _ := HH127
          refine lp (fun m a w' => ∃ (k : Nat) (y : tStore) (l : List tStore) (A_9 : Option Addr) (c_9 : Nat) (S_9 : Nat → Prop) (A_10_1 : Option Addr) (c_10_1 : Nat) (S_10_1 : Nat → Prop), m = (a2 - (k : Int)).toNat ∧ Env 65 [(2, .int .i64 (a2 - (k : Int))), (9, .slice A_9 (List.length (l ++ [y])) c_9), (0, .slice A0 (a0.length) c0), (10, .pointer (some ⟨q30, 0, none⟩))] a ∧ Held Nob w [rVec eStore 55 S_9 A_9 c_9 (l ++ [y]), rSo eInt S_10_1 A_10_1 c_10_1 y.2, rBlk q30 55 [.int .i64 y.1, .slice A_10_1 (List.length y.2) c_10_1], rBlk q21 55 [.int .i64 (a1.1), .slice Az1_1 (a1.2.length) cz1_1]] w' ∧ ((k : Int) ≤ a2) ∧ (storeOf a0 y = true) ∧ (traceS a0 a1 a2 [] = traceF a0 (a2 - k).toNat y k l) ∧ (l.length ≤ 0 + k)) ((a2 - ((0) : Int)).toNat) ?_ ?_
          · have E35 : ([]) ++ [a1] = ([a1] : List tStore) := by
              first | rfl | simp
            exact ⟨0, a1, [], (some ⟨q28, 0, none⟩), 1, S34, Ar29_0, cr29_0, Sr29, rfl, HE121.sub ⟨(lkI rfl (by first | rfl | omega | (simp [hc23, hc25, hc26]; done))), (by rw [E35]; rfl), rfl, rfl, trivial⟩, ((HH128.sel [0, 2, 1, 3] (by decide) rfl).to (by first | rfl | (rw [E35]; done) | (rw [E35]; rfl) | (simp only [E35]; done) | (simp only [E35]; rfl))), (by first | omega | assumption | (simp; done) | simp_all), (by exact validStore_of hV), (by unfold traceS; simp), (by first | omega | assumption | (simp; done) | simp_all)⟩
          · rintro m a_129 w' ⟨k, y, l, A_9, c_9, S_9, A_10_1, c_10_1, S_10_1, rfl, HE130, HH131, p36_0, p36_1, p36_2, p36_3⟩
            obtain ⟨w0_, w1_, w2_, w3_⟩ := storeOf_facts p36_1
            have ol : (l ++ [y]).length = l.length + 1 := by simp
            have hst : (stepS2 a0 y).1.2.length = y.2.length := stepS_len a0 y
            refine wp_seq ?_
            refine wp_seq ?_
            refine rg ?_
            refine pl_x HE130 HH131 (wt0 rfl) (x_move rfl) rfl rfl fun a_132 HE133 => ?_
            refine pl_x HE133 HH131 (wt0 rfl) (x_gtr rfl rfl) rfl rfl fun a_134 HE135 => ?_
            refine pl_x HE135 HH131 (wt0 rfl) (x_move rfl) rfl rfl fun a_136 HE137 => ?_
            by_cases hc37 : 0 < (a2 - (k : Int))
            · refine pl_x HE137 HH131 (wtT HE137 rfl rfl rfl (decide_eq_true hc37)) (x_move rfl) rfl rfl fun a_138 HE139 => ?_
              refine pl fun K_140 hK141 => ?_
              refine st_call HE139 (wtT HE139 rfl rfl rfl (decide_eq_true hc37)) rfl rfl rfl en_109 rfl rfl (spec_l07Halts _ _ a0 _ _ _ y _ (HH131.old h0) (rep_Store (x := y) (by exact ⟨by omega, by omega⟩) (HH131.sl (i := 1) rfl)) (c_blkN 2 rfl _ HH131)) fun e w' hr => ?_
              obtain ⟨rfl, rfl⟩ := hr
              refine ⟨_, rfl, fun a_142 HE143 => hK141 _ _ ?_⟩
              refine pl_x HE143 HH131 (wtT HE143 rfl rfl rfl (decide_eq_true hc37)) (x_not rfl) rfl rfl fun a_144 HE145 => ?_
              refine pl_x HE145 HH131 (wt0 rfl) (x_pickT rfl (decide_eq_true hc37) rfl) rfl rfl fun a_146 HE147 => ?_
              refine wpList_nil ?_
              clear a_74 HE75 HH72 HH122 HH123 HH124 HH125 HH126 HH127 a_120 HE121 HH128 a_129 HE130 a_132 HE133 a_134 HE135 a_136 HE137 a_138 HE139 a_142 HE143 a_144 HE145 hK141 K_140
              refine nrm ?_
              refine cnd_nb HE147 rfl (fun hc39 => ?_) (fun hc39 => ?_)
              · have hN : y.1 < (a0.length : Int) := by unfold haltsS at hc39; simp at hc39; omega
                refine wp_skip ?_
                refine nrm ?_
                refine wp_seq ?_
                refine wp_block ?_
                refine wp_seq ?_
                refine rg ?_
                refine pl_x HE147 HH131 (wt0 rfl) (x_move rfl) rfl rfl fun a_148 HE149 => ?_
                refine pl fun K_150 hK151 => ?_
                refine st_call HE149 (wt0 rfl) rfl rfl rfl en_110 rfl rfl (spec_l07Step _ _ a0 _ _ _ y _ (HH131.old h0) (rep_Store (x := y) (by exact ⟨by omega, by omega⟩) (HH131.sl (i := 1) rfl)) (c_blkN 2 rfl _ HH131) (by first | exact s0 | exact validStore_prog ‹_›) (by first | assumption | exact validStore_of ‹_›) (by omega)) fun e w' hr => ?_
                obtain ⟨esr40_0, rfl, hor40_0, hbr40⟩ := hr
                have hr := eStore.read hor40_0
                obtain ⟨Sr40, HH152⟩ := HH131.newO hbr40 hor40_0
                obtain ⟨Ar40_0_1, cr40_0_1, rfl, gr40_0_0, gr40_0_1⟩ := shape_Store hr
                have jr40_0_0 := gr40_0_0; unfold I64 at jr40_0_0
                have HH153 := HH152.unF rfl
                refine ⟨_, rfl, fun a_154 HE155 => hK151 _ _ ?_⟩
                refine pl_x HE155 HH153 (wt0 rfl) (x_move rfl) rfl rfl fun a_156 HE157 => ?_
                refine pl_x HE157 HH153 (wt0 rfl) (x_extract rfl rfl) rfl rfl fun a_158 HE159 => ?_
                refine pl_x HE159 HH153 (wt0 rfl) (x_extract rfl rfl) rfl rfl fun a_160 HE161 => ?_
                refine pl fun K_162 hK163 => ?_
                refine st_alloc HE161 HH153 tv_55 (wt0 rfl) rfl fun q41 a_164 w' HE165 HH166 => hK163 _ _ ?_
                refine pl fun K_167 hK168 => ?_
                refine st_store (vs := [.int .i64 ((stepS2 a0 y).1.1), .slice Ar40_0_1 ((stepS2 a0 y).1.2.length) cr40_0_1]) 0 HE165 HH166 tv_55 rfl rfl rfl rfl rfl rfl (by simp [Value.oneCell']) (wt0 rfl) fun w' HH169 => hK168 _ _ ?_
                refine pl_x HE165 HH169 (wt0 rfl) (x_assign rfl) rfl rfl fun a_170 HE171 => ?_
                refine wpList_nil ?_
                clear a_146 HE147 HH131 HH152 a_148 HE149 a_154 HE155 a_156 HE157 a_158 HE159 K_150 hK151 a_160 HE161 HH153 K_162 hK163 HH166 a_164 HE165 hK168 K_167
                refine nrm ?_
                refine wp_seq ?_
                refine wp_seq ?_
                refine rg ?_
                refine pl_x HE171 HH169 (wt0 rfl) (x_move rfl) rfl rfl fun a_172 HE173 => ?_
                refine pl_x HE173 HH169 (wt0 rfl) (x_not rfl) rfl rfl fun a_174 HE175 => ?_
                refine wpList_nil ?_
                clear a_170 HE171 a_172 HE173
                refine nrm ?_
                refine cnd_nb HE175 rfl (fun hc42 => ?_) (fun hc42 => ?_)
                · refine wp_seq ?_
                  refine rg ?_
                  refine pl_x HE175 HH169 (wt0 rfl) (x_assign rfl) rfl rfl fun a_176 HE177 => ?_
                  refine pl_x HE177 HH169 (wt0 rfl) (x_assign rfl) rfl rfl fun a_178 HE179 => ?_
                  refine wpList_nil ?_
                  clear a_174 HE175 a_176 HE177
                  refine nrm ?_
                  refine wp_ret ?_
                  refine (thn_ret (blk_ret (thn_ret (thn_ret (blk_ret (thn_ret ?_))))))
                  refine ret2 HE179 rfl (rv_tmp rfl) (rv_tmp rfl) ?_
                  have hF : (traceProg a0 a1 a2) = ([], 5) := by
                    first | (simp [traceProg, hc23, hc25, hc26, p36_0, p36_1, p36_2, p36_3, hc37, hc39, hc42]; done) | grind [traceProg, askS] | (have hq := p36_2; rw [traceF_eq] at hq; unfold traceProg; grind [haltsS, stepS2])
                  exact ⟨none, 0, by rw [hF] <;> rfl, by rw [hF]; exact (So.nil (Nat.zero_le _)), HH169.below⟩
                · refine wp_skip ?_
                  refine nrm ?_
                  refine wp_seq ?_
                  refine rg ?_
                  refine pl_x HE175 HH169 (wt0 rfl) (x_loadN (cs := [.int .i64 ((stepS2 a0 y).1.1), .slice Ar40_0_1 ((stepS2 a0 y).1.2.length) cr40_0_1]) tv_55 rfl rfl (c_blkN 0 rfl)) rfl rfl fun a_180 HE181 => ?_
                  refine pl fun K_182 hK183 => ?_
                  refine st_store (vs := [.int .i64 ((stepS2 a0 y).1.1), .slice Ar40_0_1 ((stepS2 a0 y).1.2.length) cr40_0_1]) 4 HE181 HH169 tv_55 rfl rfl rfl rfl rfl rfl (by simp [Value.oneCell']) (wt0 rfl) fun w' HH184 => hK183 _ _ ?_
                  refine wpList_nil ?_
                  clear a_174 HE175 HH169 hK183 K_182
                  refine nrm ?_
                  refine dr_start (Held Nob w [rBlk q41 55 [.int .i64 ((stepS2 a0 y).1.1), .slice Ar40_0_1 ((stepS2 a0 y).1.2.length) cr40_0_1], rSo eInt Sr40 Ar40_0_1 cr40_0_1 ((stepS2 a0 y).1.2), rSo eInt S_10_1 A_10_1 c_10_1 y.2, rBlk q30 55 [.int .i64 ((stepS2 a0 y).1.1), .slice Ar40_0_1 ((stepS2 a0 y).1.2.length) cr40_0_1], rBlk q21 55 [.int .i64 (a1.1), .slice Az1_1 (a1.2.length) cz1_1]]) 10 #[false, false, false, false, false, false, false, false, false, false] hmix rfl rfl HH184 (fun _ h => h.sel [0, 1, 3, 4, 5] (by decide) rfl) fun w' HH185 => ?_
                  have HS186 := HH185.sel [0, 1, 3, 4, 5] (by decide) rfl
                  refine dr_take (i := 0) (ls' := #[true, false, false, false, false, false, false, false, false, false]) HE181 HS186 rfl (by kernel_rfl) (by kernel_rfl) (by kernel_rfl) (fun _ _ _ h => h) rfl (wt0 rfl) (x_move rfl) rfl rfl fun a_187 HE188 => ?_
                  refine dr_take (i := 1) (ls' := #[true, true, false, false, false, false, false, false, false, false]) HE188 HS186 rfl (by kernel_rfl) (by kernel_rfl) (by kernel_rfl) (fun _ _ _ h => h) rfl (wt0 rfl) (x_fieldAddr fa_55_0 rfl) rfl rfl fun a_189 HE190 => ?_
                  refine dr_take (i := 2) (ls' := #[true, true, true, false, false, false, false, false, false, false]) HE190 HS186 rfl (by kernel_rfl) (by kernel_rfl) (by kernel_rfl) (fun _ _ _ h => h) rfl (wt0 rfl) (x_load1 tv_2 rfl (c_blk 3 rfl rfl)) rfl rfl fun a_191 HE192 => ?_
                  refine dr_take (i := 3) (ls' := #[true, true, true, true, false, false, false, false, false, false]) HE192 HS186 rfl (by kernel_rfl) (by kernel_rfl) (by kernel_rfl) (fun _ _ _ h => h) rfl (wt0 rfl) (x_fieldAddr fa_55_1 rfl) rfl rfl fun a_193 HE194 => ?_
                  refine dr_take (i := 4) (ls' := #[true, true, true, true, true, false, false, false, false, false]) HE194 HS186 rfl (by kernel_rfl) (by kernel_rfl) (by kernel_rfl) (fun _ _ _ h => h) rfl (wt0 rfl) (x_load1 tv_31 rfl (c_blk 3 rfl rfl)) rfl rfl fun a_195 HE196 => ?_
                  refine dr_one (i := 5) (ls' := #[true, true, true, true, true, true, false, false, false, false]) rfl (by kernel_rfl) rfl fun K_197 hK198 => ?_
                  refine st_call HE196 (wt0 rfl) rfl rfl rfl en_100 rfl rfl (spec_l00Own _ _ ((stepS2 a0 y).1.2) _ (HH185.sl (i := 1) rfl) (by omega)) fun e w' hr => ?_
                  obtain ⟨Ar43_0, cr43_0, rfl, hor43_0, hbr43⟩ := hr
                  obtain ⟨Sr43, HH199⟩ := HH185.newS hbr43 hor43_0
                  refine ⟨_, rfl, fun a_200 HE201 => hK198 _ _ (by exact HH199.sel [1, 2, 4, 5, 6] (by decide) rfl) ?_⟩
                  have HS202 := HH199.sel [1, 2, 4, 5, 6] (by decide) rfl
                  refine dr_take (i := 6) (ls' := #[true, true, true, true, true, true, true, false, false, false]) HE201 HS202 rfl (by kernel_rfl) (by kernel_rfl) (by kernel_rfl) (fun _ _ _ h => h) rfl (wt0 rfl) (show XS _ _ _ _ (.agg #[.int .i64 ((stepS2 a0 y).1.1), .slice Ar43_0 (((stepS2 a0 y).1.2).length) cr43_0]) from x_build (vs := [(0, .int .i64 ((stepS2 a0 y).1.1)), (1, .slice Ar43_0 (((stepS2 a0 y).1.2).length) cr43_0)]) tb_55 rfl (by simp [Value.oneCell'])) rfl rfl fun a_203 HE204 => ?_
                  refine dr_one (i := 7) (ls' := #[true, true, true, true, true, true, true, true, false, false]) rfl (by kernel_rfl) rfl fun K_205 hK206 => ?_
                  refine st_lit (m := 1) (cs := [.int .i64 ((stepS2 a0 y).1.1), .slice Ar43_0 (((stepS2 a0 y).1.2).length) cr43_0]) (e := 55) HE204 HH199 (run_lit ts_52 HE204 (vs := [.agg #[.int .i64 ((stepS2 a0 y).1.1), .slice Ar43_0 (((stepS2 a0 y).1.2).length) cr43_0]]) rfl rfl (by simp [Value.cells]) rfl (by decide)) (wt0 rfl) rfl rfl fun q44 a_207 w' HE208 HH209 => hK206 _ _ (by exact HH209.sel [2, 3, 5, 6, 7] (by decide) rfl) ?_
                  have HS210 := HH209.sel [2, 3, 5, 6, 7] (by decide) rfl
                  refine dr_one (i := 8) (ls' := #[true, true, true, true, true, true, true, true, true, false]) rfl (by kernel_rfl) rfl fun K_211 hK212 => ?_
                  have HH213 := HH209.sel [1, 0, 2, 3, 4, 5, 6, 7] (by decide) rfl
                  have HH214 := HH213.pairF (E := eInt) (c1 := [.int .i64 ((stepS2 a0 y).1.1)]) (x := (stepS2 a0 y).1.1) (oI (by exact ⟨by omega, by omega⟩))
                  obtain ⟨S48, HH215⟩ : ∃ S, Held Nob w (rO eStore S [.int .i64 ((stepS2 a0 y).1.1), .slice Ar43_0 (((stepS2 a0 y).1.2).length) cr43_0] ((stepS2 a0 y).1.1, ((stepS2 a0 y).1.2)) :: _) _ := ⟨_, HH214⟩
                  refine st_app1 HE208 HH215 ts_52 [4, 0, 1, 2, 3, 5, 6, 7] (by decide) rfl rfl rfl (by simp [Value.oneCell']) (by unfold maxLen; first | omega | (simp; done) | (simp; omega)) (by first | omega | (simp; done) | (simp; omega)) (wt0 rfl) rfl fun A45 c46 S47 a_216 w' HE217 HH218 => hK212 _ _ (by exact HH218.sel [2, 3, 4, 5, 6] (by decide) rfl) ?_
                  have HS219 := HH218.sel [2, 3, 4, 5, 6] (by decide) rfl
                  refine dr_take (i := 9) (ls' := #[true, true, true, true, true, true, true, true, true, true]) HE217 HS219 rfl (by kernel_rfl) (by kernel_rfl) (by kernel_rfl) (fun _ _ _ h => h) rfl (wt0 rfl) (x_assign rfl) rfl rfl fun a_220 HE221 => ?_
                  refine dr_done (by kernel_rfl) ?_
                  clear HH184 HS73 a_180 HE181 a_187 HE188 a_189 HE190 a_191 HE192 a_193 HE194 HH185 a_195 HE196 HS186 a_200 HE201 K_197 hK198 a_203 HE204 HH199 HS202 K_205 hK206 HH209 HH213 HH214 a_207 HE208 HH215 HS210 a_216 HE217 hK212 K_211
                  refine blk_n ?_
                  refine nrm ?_
                  refine rg ?_
                  refine pl_x HE221 HH218 (wt0 rfl) (x_move rfl) rfl rfl fun a_222 HE223 => ?_
                  refine pl_x HE223 HH218 (wt0 rfl) (x_sub rfl rfl (by exact ⟨by omega, by omega⟩)) rfl rfl fun a_224 HE225 => ?_
                  refine pl_x HE225 HH218 (wt0 rfl) (x_assign rfl) rfl rfl fun a_226 HE227 => ?_
                  refine wpList_nil ?_
                  clear a_220 HE221 a_222 HE223 a_224 HE225
                  have E49 : ((l ++ [y])) ++ [((stepS a0 y).2)] = (l ++ [y] ++ [((stepS2 a0 y).1.1, ((stepS2 a0 y).1.2))]) := by
                    first | rfl | simp
                  have E50 : ((stepS a0 y).2).2 = (stepS2 a0 y).1.2 := by
                    first | rfl | simp
                  have E51 : ((stepS a0 y).2).1 = (stepS2 a0 y).1.1 := by first | rfl | omega | (simp [hc23, hc25, hc26, p36_0, p36_1, p36_2, p36_3, hc37, hc39, hc42]; done)
                  exact nrm ⟨(a2 - ((k + 1) : Int)).toNat, (by omega), k + 1, (stepS a0 y).2, (l ++ [y]), A45, c46, S47, Ar40_0_1, cr40_0_1, Sr40, rfl, HE227.sub ⟨(lkI rfl (by first | rfl | omega | (simp [hc23, hc25, hc26, p36_0, p36_1, p36_2, p36_3, hc37, hc39, hc42]; done))), (by rw [E49]; rfl), rfl, rfl, trivial⟩, ((HH218.sel [0, 3, 5, 6] (by decide) rfl).to (by first | rfl | (rw [E49, E50, E51]; done) | (rw [E49, E50, E51]; rfl) | (simp only [E49, E50, E51]; done) | (simp only [E49, E50, E51]; rfl))), (by first | omega | assumption | (simp; done) | simp_all), (by exact storeOf_step (validStore_prog hV) p36_1 (by omega) hc42), (by rw [p36_2, traceF_step (g := (a2 - ((k + 1 : Nat) : Int)).toNat) (by omega) (by omega) hc42]; simp), (by simp; omega)⟩
              · refine wp_exit ?_
                refine (thn_exit (thn_exit (blk_hit ?_)))
                refine nrm ?_
                refine wp_seq ?_
                refine rg ?_
                refine pl_x HE147 HH131 (wt0 rfl) (x_move rfl) rfl rfl fun a_228 HE229 => ?_
                refine pl_x HE229 HH131 (wt0 rfl) (x_assign rfl) rfl rfl fun a_230 HE231 => ?_
                refine pl_x HE231 HH131 (wt0 rfl) (x_assign rfl) rfl rfl fun a_232 HE233 => ?_
                refine wpList_nil ?_
                clear a_146 HE147 a_228 HE229 a_230 HE231
                refine nrm ?_
                refine wp_ret ?_
                refine ret2 HE233 rfl (rv_tmp rfl) (rv_tmp rfl) ?_
                have HH234 := HH131.vecSo
                have hF : (traceProg a0 a1 a2) = (l ++ [y], 0) := by
                  first | (simp [traceProg, hc23, hc25, hc26, p36_0, p36_1, p36_2, p36_3, hc37, hc39]; done) | grind [traceProg, askS] | (have hq := p36_2; rw [traceF_eq] at hq; unfold traceProg; grind [haltsS, stepS2])
                exact ⟨A_9, c_9, by rw [hF] <;> rfl, by rw [hF]; exact (HH234.so (i := 0) rfl), HH234.below⟩
            · refine pl_no HE137 (wtF HE137 rfl rfl rfl (decide_eq_false hc37)) rfl rfl fun a_235 HE236 => ?_
              refine pl_no HE236 (wtF HE236 rfl rfl rfl (decide_eq_false hc37)) rfl rfl fun a_237 HE238 => ?_
              refine pl_no HE238 (wtF HE238 rfl rfl rfl (decide_eq_false hc37)) rfl rfl fun a_239 HE240 => ?_
              refine pl_x HE240 HH131 (wt0 rfl) (x_pickF rfl (decide_eq_false hc37) rfl) rfl rfl fun a_241 HE242 => ?_
              refine wpList_nil ?_
              clear a_74 HE75 HH72 HH122 HH123 HH124 HH125 HH126 HH127 a_120 HE121 HH128 a_129 HE130 a_132 HE133 a_134 HE135 a_136 HE137 a_235 HE236 a_237 HE238 a_239 HE240
              refine nrm ?_
              refine cndF HE242 rfl rfl ?_
              refine wp_exit ?_
              refine (thn_exit (thn_exit (blk_hit ?_)))
              refine nrm ?_
              refine wp_seq ?_
              refine rg ?_
              refine pl_x HE242 HH131 (wt0 rfl) (x_move rfl) rfl rfl fun a_243 HE244 => ?_
              refine pl_x HE244 HH131 (wt0 rfl) (x_assign rfl) rfl rfl fun a_245 HE246 => ?_
              refine pl_x HE246 HH131 (wt0 rfl) (x_assign rfl) rfl rfl fun a_247 HE248 => ?_
              refine wpList_nil ?_
              clear a_241 HE242 a_243 HE244 a_245 HE246
              refine nrm ?_
              refine wp_ret ?_
              refine ret2 HE248 rfl (rv_tmp rfl) (rv_tmp rfl) ?_
              have HH249 := HH131.vecSo
              have hF : (traceProg a0 a1 a2) = (l ++ [y], 0) := by
                first | (simp [traceProg, hc23, hc25, hc26, p36_0, p36_1, p36_2, p36_3, hc37]; done) | grind [traceProg, askS] | (have hq := p36_2; rw [traceF_eq] at hq; unfold traceProg; grind [haltsS, stepS2])
              exact ⟨A_9, c_9, by rw [hF] <;> rfl, by rw [hF]; exact (HH249.so (i := 0) rfl), HH249.below⟩
    · have hW := withinB_true.1 hc25
      refine wp_skip ?_
      refine nrm ?_
      refine wp_seq ?_
      refine wp_seq ?_
      refine rg ?_
      refine pl_x HE37 HH17 (wt0 rfl) (x_move rfl) rfl rfl fun a_250 HE251 => ?_
      refine pl_x HE251 HH17 (wt0 rfl) (x_neq rfl rfl) rfl rfl fun a_252 HE253 => ?_
      refine wpList_nil ?_
      clear a_36 HE37 a_250 HE251
      refine nrm ?_
      refine cndF HE253 rfl (bne_f hc23) ?_
      refine wp_skip ?_
      refine nrm ?_
      refine wp_seq ?_
      refine dr_start (Held Nob w [rBlk q21 55 [.int .i64 (a1.1), .slice Az1_1 (a1.2.length) cz1_1]]) 8 #[false, false, false, false, false, false, false, false] hmix rfl rfl HH17 (fun _ h => h.sel [0] (by decide) rfl) fun w' HH254 => ?_
      have HS255 := HH254
      refine dr_take (i := 0) (ls' := #[true, false, false, false, false, false, false, false]) HE253 HS255 rfl (by kernel_rfl) (by kernel_rfl) (by kernel_rfl) (fun _ _ _ h => h) rfl (wt0 rfl) (x_fieldAddr fa_55_0 rfl) rfl rfl fun a_256 HE257 => ?_
      refine dr_take (i := 1) (ls' := #[true, true, false, false, false, false, false, false]) HE257 HS255 rfl (by kernel_rfl) (by kernel_rfl) (by kernel_rfl) (fun _ _ _ h => h) rfl (wt0 rfl) (x_load1 tv_2 rfl (c_blk 0 rfl rfl)) rfl rfl fun a_258 HE259 => ?_
      refine dr_take (i := 2) (ls' := #[true, true, true, false, false, false, false, false]) HE259 HS255 rfl (by kernel_rfl) (by kernel_rfl) (by kernel_rfl) (fun _ _ _ h => h) rfl (wt0 rfl) (x_fieldAddr fa_55_1 rfl) rfl rfl fun a_260 HE261 => ?_
      refine dr_take (i := 3) (ls' := #[true, true, true, true, false, false, false, false]) HE261 HS255 rfl (by kernel_rfl) (by kernel_rfl) (by kernel_rfl) (fun _ _ _ h => h) rfl (wt0 rfl) (x_load1 tv_31 rfl (c_blk 0 rfl rfl)) rfl rfl fun a_262 HE263 => ?_
      refine dr_one (i := 4) (ls' := #[true, true, true, true, true, false, false, false]) rfl (by kernel_rfl) rfl fun K_264 hK265 => ?_
      refine st_call HE263 (wt0 rfl) rfl rfl rfl en_100 rfl rfl (spec_l00Own _ _ a1.2 _ (HH254.old gz1_1) (by omega)) fun e w' hr => ?_
      obtain ⟨Ar52_0, cr52_0, rfl, hor52_0, hbr52⟩ := hr
      obtain ⟨Sr52, HH266⟩ := HH254.newS hbr52 hor52_0
      refine ⟨_, rfl, fun a_267 HE268 => hK265 _ _ (by exact HH266.sel [1] (by decide) rfl) ?_⟩
      have HS269 := HH266.sel [1] (by decide) rfl
      refine dr_take (i := 5) (ls' := #[true, true, true, true, true, true, false, false]) HE268 HS269 rfl (by kernel_rfl) (by kernel_rfl) (by kernel_rfl) (fun _ _ _ h => h) rfl (wt0 rfl) (show XS _ _ _ _ (.agg #[.int .i64 (a1.1), .slice Ar52_0 (a1.2.length) cr52_0]) from x_build (vs := [(0, .int .i64 (a1.1)), (1, .slice Ar52_0 (a1.2.length) cr52_0)]) tb_55 rfl (by simp [Value.oneCell'])) rfl rfl fun a_270 HE271 => ?_
      refine dr_one (i := 6) (ls' := #[true, true, true, true, true, true, true, false]) rfl (by kernel_rfl) rfl fun K_272 hK273 => ?_
      refine st_lit (m := 1) (cs := [.int .i64 (a1.1), .slice Ar52_0 (a1.2.length) cr52_0]) (e := 55) HE271 HH266 (run_lit ts_52 HE271 (vs := [.agg #[.int .i64 (a1.1), .slice Ar52_0 (a1.2.length) cr52_0]]) rfl rfl (by simp [Value.cells]) rfl (by decide)) (wt0 rfl) rfl rfl fun q53 a_274 w' HE275 HH276 => hK273 _ _ (by exact HH276.sel [2] (by decide) rfl) ?_
      have HS277 := HH276.sel [2] (by decide) rfl
      refine dr_take (i := 7) (ls' := #[true, true, true, true, true, true, true, true]) HE275 HS277 rfl (by kernel_rfl) (by kernel_rfl) (by kernel_rfl) (fun _ _ _ h => h) rfl (wt0 rfl) (x_assign rfl) rfl rfl fun a_278 HE279 => ?_
      refine dr_done (by kernel_rfl) ?_
      clear HH17 a_252 HE253 a_256 HE257 a_258 HE259 a_260 HE261 HH254 a_262 HE263 HS255 a_267 HE268 K_264 hK265 a_270 HE271 HH266 HS269 a_274 HE275 hK273 K_272
      refine nrm ?_
      refine wp_seq ?_
      refine wp_join (fun a w' => ∃ (q55 : Nat), ∃ (Ar54_0 : Option Addr), ∃ (cr54_0 : Nat), ∃ (Sr54 : Nat → Prop), Env 65 [(0, .slice A0 (a0.length) c0), (2, .int .i64 (a2)), (9, .slice (some ⟨q53, 0, none⟩) (1) 1), (10, .pointer (some ⟨q55, 0, none⟩))] a ∧ Held Nob w [rBlk q55 55 [.int .i64 (a1.1), .slice Ar54_0 (a1.2.length) cr54_0], rSo eInt Sr54 Ar54_0 cr54_0 a1.2, rBlk q53 55 [.int .i64 (a1.1), .slice Ar52_0 (a1.2.length) cr52_0], rSo eInt Sr52 Ar52_0 cr52_0 a1.2, rBlk q21 55 [.int .i64 (a1.1), .slice Az1_1 (a1.2.length) cz1_1]] w') ?_ ?_
      · refine dr_start (Held Nob w [rBlk q53 55 [.int .i64 (a1.1), .slice Ar52_0 (a1.2.length) cr52_0], rSo eInt Sr52 Ar52_0 cr52_0 a1.2, rBlk q21 55 [.int .i64 (a1.1), .slice Az1_1 (a1.2.length) cz1_1]]) 8 #[false, false, false, false, false, false, false, false] hmix rfl rfl HH276 (fun _ h => h.sel [0, 1, 2] (by decide) rfl) fun w' HH280 => ?_
        have HS281 := HH280
        refine dr_take (i := 0) (ls' := #[true, false, false, false, false, false, false, false]) HE279 HS281 rfl (by kernel_rfl) (by kernel_rfl) (by kernel_rfl) (fun _ _ _ h => h) rfl (wt0 rfl) (x_fieldAddr fa_55_0 rfl) rfl rfl fun a_282 HE283 => ?_
        refine dr_take (i := 1) (ls' := #[true, true, false, false, false, false, false, false]) HE283 HS281 rfl (by kernel_rfl) (by kernel_rfl) (by kernel_rfl) (fun _ _ _ h => h) rfl (wt0 rfl) (x_load1 tv_2 rfl (c_blk 2 rfl rfl)) rfl rfl fun a_284 HE285 => ?_
        refine dr_take (i := 2) (ls' := #[true, true, true, false, false, false, false, false]) HE285 HS281 rfl (by kernel_rfl) (by kernel_rfl) (by kernel_rfl) (fun _ _ _ h => h) rfl (wt0 rfl) (x_fieldAddr fa_55_1 rfl) rfl rfl fun a_286 HE287 => ?_
        refine dr_take (i := 3) (ls' := #[true, true, true, true, false, false, false, false]) HE287 HS281 rfl (by kernel_rfl) (by kernel_rfl) (by kernel_rfl) (fun _ _ _ h => h) rfl (wt0 rfl) (x_load1 tv_31 rfl (c_blk 2 rfl rfl)) rfl rfl fun a_288 HE289 => ?_
        refine dr_two (i := 4) (j := 6) (ls' := #[true, true, true, true, true, false, false, false]) (ls'' := #[true, true, true, true, false, false, true, false]) rfl rfl (by kernel_rfl) rfl rfl (fun K_290 hK291 => ?_) (fun K_290 hK291 => ?_)
        · refine st_call HE289 (wt0 rfl) rfl rfl rfl en_100 rfl rfl (spec_l00Own _ _ a1.2 _ (HH280.old gz1_1) (by omega)) fun e w' hr => ?_
          obtain ⟨Ar54_0, cr54_0, rfl, hor54_0, hbr54⟩ := hr
          obtain ⟨Sr54, HH292⟩ := HH280.newS hbr54 hor54_0
          refine ⟨_, rfl, fun a_293 HE294 => hK291 _ _ (by exact HH292.sel [1, 2, 3] (by decide) rfl) ?_⟩
          have HS295 := HH292.sel [1, 2, 3] (by decide) rfl
          refine dr_take (i := 5) (ls' := #[true, true, true, true, true, true, false, false]) HE294 HS295 rfl (by kernel_rfl) (by kernel_rfl) (by kernel_rfl) (fun _ _ _ h => h) rfl (wt0 rfl) (show XS _ _ _ _ (.agg #[.int .i64 (a1.1), .slice Ar54_0 (a1.2.length) cr54_0]) from x_build (vs := [(0, .int .i64 (a1.1)), (1, .slice Ar54_0 (a1.2.length) cr54_0)]) tb_55 rfl (by simp [Value.oneCell'])) rfl rfl fun a_296 HE297 => ?_
          refine dr_one (i := 6) (ls' := #[true, true, true, true, true, true, true, false]) rfl (by kernel_rfl) rfl fun K_298 hK299 => ?_
          refine st_alloc HE297 HH292 tv_55 (wt0 rfl) rfl fun q55 a_300 w' HE301 HH302 => hK299 _ _ (by exact HH302.sel [2, 3, 4] (by decide) rfl) ?_
          have HS303 := HH302.sel [2, 3, 4] (by decide) rfl
          refine dr_one (i := 7) (ls' := #[true, true, true, true, true, true, true, true]) rfl (by kernel_rfl) rfl fun K_304 hK305 => ?_
          refine st_store (vs := [.int .i64 (a1.1), .slice Ar54_0 (a1.2.length) cr54_0]) 0 HE301 HH302 tv_55 rfl rfl rfl rfl rfl rfl (by simp [Value.oneCell']) (wt0 rfl) fun w' HH306 => hK305 _ _ (by exact HH306.sel [2, 3, 4] (by decide) rfl) ?_
          have HS307 := HH306.sel [2, 3, 4] (by decide) rfl
          refine dr_done (by kernel_rfl) ?_
          clear HH276 HS277 a_278 HE279 a_282 HE283 a_284 HE285 a_286 HE287 HH280 a_288 HE289 HS281 a_293 HE294 K_290 hK291 a_296 HE297 HH292 HS295 K_298 hK299 HH302 HS303 hK305 K_304
          exact nrm ⟨_, _, _, _, HE301.sub ⟨rfl, rfl, rfl, rfl, trivial⟩, HH306.sel [0, 1, 2, 3, 4] (by decide) rfl⟩
        · refine st_alloc HE289 HH280 tv_55 (wt0 rfl) rfl fun q56 a_308 w' HE309 HH310 => hK291 _ _ (by exact HH310.sel [1, 2, 3] (by decide) rfl) ?_
          have HS311 := HH310.sel [1, 2, 3] (by decide) rfl
          refine dr_one (i := 4) (ls' := #[true, true, true, true, true, false, true, false]) rfl (by kernel_rfl) rfl fun K_312 hK313 => ?_
          refine st_call HE309 (wt0 rfl) rfl rfl rfl en_100 rfl rfl (spec_l00Own _ _ a1.2 _ (HH310.old gz1_1) (by omega)) fun e w' hr => ?_
          obtain ⟨Ar57_0, cr57_0, rfl, hor57_0, hbr57⟩ := hr
          obtain ⟨Sr57, HH314⟩ := HH310.newS hbr57 hor57_0
          refine ⟨_, rfl, fun a_315 HE316 => hK313 _ _ (by exact HH314.sel [2, 3, 4] (by decide) rfl) ?_⟩
          have HS317 := HH314.sel [2, 3, 4] (by decide) rfl
          refine dr_take (i := 5) (ls' := #[true, true, true, true, true, true, true, false]) HE316 HS317 rfl (by kernel_rfl) (by kernel_rfl) (by kernel_rfl) (fun _ _ _ h => h) rfl (wt0 rfl) (show XS _ _ _ _ (.agg #[.int .i64 (a1.1), .slice Ar57_0 (a1.2.length) cr57_0]) from x_build (vs := [(0, .int .i64 (a1.1)), (1, .slice Ar57_0 (a1.2.length) cr57_0)]) tb_55 rfl (by simp [Value.oneCell'])) rfl rfl fun a_318 HE319 => ?_
          refine dr_one (i := 7) (ls' := #[true, true, true, true, true, true, true, true]) rfl (by kernel_rfl) rfl fun K_320 hK321 => ?_
          refine st_store (vs := [.int .i64 (a1.1), .slice Ar57_0 (a1.2.length) cr57_0]) 1 HE319 HH314 tv_55 rfl rfl rfl rfl rfl rfl (by simp [Value.oneCell']) (wt0 rfl) fun w' HH322 => hK321 _ _ (by exact HH322.sel [2, 3, 4] (by decide) rfl) ?_
          have HS323 := HH322.sel [2, 3, 4] (by decide) rfl
          refine dr_done (by kernel_rfl) ?_
          clear HH276 HS277 a_278 HE279 a_282 HE283 a_284 HE285 a_286 HE287 a_288 HE289 HH280 HS281 K_290 hK291 HH310 a_308 HE309 HS311 a_315 HE316 K_312 hK313 HH314 HS317 hK321 K_320
          exact nrm ⟨_, _, _, _, HE319.sub ⟨rfl, rfl, rfl, rfl, trivial⟩, HH322.sel [1, 0, 2, 3, 4] (by decide) rfl⟩
      · rintro a_324 w' ⟨q55, Ar54_0, cr54_0, Sr54, HE325, HH326⟩
        refine nrm ?_
        refine wp_seq ?_
        refine wp_block ?_
        have HH327 := HH326.sel [3, 0, 1, 2, 4] (by decide) rfl
        have HH328 := HH327.pairF (E := eInt) (c1 := [.int .i64 (a1.1)]) (x := a1.1) (oI (by exact ⟨by omega, by omega⟩))
        obtain ⟨S58, HH329⟩ : ∃ S, Held Nob w (rO eStore S [.int .i64 (a1.1), .slice Ar52_0 (a1.2.length) cr52_0] a1 :: _) _ := ⟨_, HH328⟩
        have HH330 := HH329.sel [0, 3, 1, 2, 4] (by decide) rfl
        obtain ⟨S59, HH331⟩ := Held.vecLit (E := eStore) (g := q53) (t := 55) (ps := [(S58, [.int .i64 (a1.1), .slice Ar52_0 (a1.2.length) cr52_0], a1)]) HH330 (by unfold maxLen; simp)
        have HH332 : Held Nob w (rVec eStore 55 S59 (some ⟨q53, 0, none⟩) 1 ([a1] : List tStore) :: [rBlk q55 55 [.int .i64 (a1.1), .slice Ar54_0 (a1.2.length) cr54_0], rSo eInt Sr54 Ar54_0 cr54_0 a1.2, rBlk q21 55 [.int .i64 (a1.1), .slice Az1_1 (a1.2.length) cz1_1]]) _ := HH331
        refine lp (fun m a w' => ∃ (k : Nat) (y : tStore) (l : List tStore) (A_9 : Option Addr) (c_9 : Nat) (S_9 : Nat → Prop) (A_10_1 : Option Addr) (c_10_1 : Nat) (S_10_1 : Nat → Prop), m = (a2 - (k : Int)).toNat ∧ Env 65 [(2, .int .i64 (a2 - (k : Int))), (9, .slice A_9 (List.length (l ++ [y])) c_9), (0, .slice A0 (a0.length) c0), (10, .pointer (some ⟨q55, 0, none⟩))] a ∧ Held Nob w [rVec eStore 55 S_9 A_9 c_9 (l ++ [y]), rSo eInt S_10_1 A_10_1 c_10_1 y.2, rBlk q55 55 [.int .i64 y.1, .slice A_10_1 (List.length y.2) c_10_1], rBlk q21 55 [.int .i64 (a1.1), .slice Az1_1 (a1.2.length) cz1_1]] w' ∧ ((k : Int) ≤ a2) ∧ (storeOf a0 y = true) ∧ (traceS a0 a1 a2 [] = traceF a0 (a2 - k).toNat y k l) ∧ (l.length ≤ 0 + k)) ((a2 - ((0) : Int)).toNat) ?_ ?_
        · have E60 : ([]) ++ [a1] = ([a1] : List tStore) := by
            first | rfl | simp
          exact ⟨0, a1, [], (some ⟨q53, 0, none⟩), 1, S59, Ar54_0, cr54_0, Sr54, rfl, HE325.sub ⟨(lkI rfl (by first | rfl | omega | (simp [hc23, hc25]; done))), (by rw [E60]; rfl), rfl, rfl, trivial⟩, ((HH332.sel [0, 2, 1, 3] (by decide) rfl).to (by first | rfl | (rw [E60]; done) | (rw [E60]; rfl) | (simp only [E60]; done) | (simp only [E60]; rfl))), (by first | omega | assumption | (simp; done) | simp_all), (by exact validStore_of hV), (by unfold traceS; simp), (by first | omega | assumption | (simp; done) | simp_all)⟩
        · rintro m a_333 w' ⟨k, y, l, A_9, c_9, S_9, A_10_1, c_10_1, S_10_1, rfl, HE334, HH335, p61_0, p61_1, p61_2, p61_3⟩
          obtain ⟨w0_, w1_, w2_, w3_⟩ := storeOf_facts p61_1
          have ol : (l ++ [y]).length = l.length + 1 := by simp
          have hst : (stepS2 a0 y).1.2.length = y.2.length := stepS_len a0 y
          refine wp_seq ?_
          refine wp_seq ?_
          refine rg ?_
          refine pl_x HE334 HH335 (wt0 rfl) (x_move rfl) rfl rfl fun a_336 HE337 => ?_
          refine pl_x HE337 HH335 (wt0 rfl) (x_gtr rfl rfl) rfl rfl fun a_338 HE339 => ?_
          refine pl_x HE339 HH335 (wt0 rfl) (x_move rfl) rfl rfl fun a_340 HE341 => ?_
          by_cases hc62 : 0 < (a2 - (k : Int))
          · refine pl_x HE341 HH335 (wtT HE341 rfl rfl rfl (decide_eq_true hc62)) (x_move rfl) rfl rfl fun a_342 HE343 => ?_
            refine pl fun K_344 hK345 => ?_
            refine st_call HE343 (wtT HE343 rfl rfl rfl (decide_eq_true hc62)) rfl rfl rfl en_109 rfl rfl (spec_l07Halts _ _ a0 _ _ _ y _ (HH335.old h0) (rep_Store (x := y) (by exact ⟨by omega, by omega⟩) (HH335.sl (i := 1) rfl)) (c_blkN 2 rfl _ HH335)) fun e w' hr => ?_
            obtain ⟨rfl, rfl⟩ := hr
            refine ⟨_, rfl, fun a_346 HE347 => hK345 _ _ ?_⟩
            refine pl_x HE347 HH335 (wtT HE347 rfl rfl rfl (decide_eq_true hc62)) (x_not rfl) rfl rfl fun a_348 HE349 => ?_
            refine pl_x HE349 HH335 (wt0 rfl) (x_pickT rfl (decide_eq_true hc62) rfl) rfl rfl fun a_350 HE351 => ?_
            refine wpList_nil ?_
            clear a_278 HE279 HH276 HH326 HH327 HH328 HH329 HH330 HH331 a_324 HE325 HH332 a_333 HE334 a_336 HE337 a_338 HE339 a_340 HE341 a_342 HE343 a_346 HE347 a_348 HE349 hK345 K_344
            refine nrm ?_
            refine cnd_nb HE351 rfl (fun hc64 => ?_) (fun hc64 => ?_)
            · have hN : y.1 < (a0.length : Int) := by unfold haltsS at hc64; simp at hc64; omega
              refine wp_skip ?_
              refine nrm ?_
              refine wp_seq ?_
              refine wp_block ?_
              refine wp_seq ?_
              refine rg ?_
              refine pl_x HE351 HH335 (wt0 rfl) (x_move rfl) rfl rfl fun a_352 HE353 => ?_
              refine pl fun K_354 hK355 => ?_
              refine st_call HE353 (wt0 rfl) rfl rfl rfl en_110 rfl rfl (spec_l07Step _ _ a0 _ _ _ y _ (HH335.old h0) (rep_Store (x := y) (by exact ⟨by omega, by omega⟩) (HH335.sl (i := 1) rfl)) (c_blkN 2 rfl _ HH335) (by first | exact s0 | exact validStore_prog ‹_›) (by first | assumption | exact validStore_of ‹_›) (by omega)) fun e w' hr => ?_
              obtain ⟨esr65_0, rfl, hor65_0, hbr65⟩ := hr
              have hr := eStore.read hor65_0
              obtain ⟨Sr65, HH356⟩ := HH335.newO hbr65 hor65_0
              obtain ⟨Ar65_0_1, cr65_0_1, rfl, gr65_0_0, gr65_0_1⟩ := shape_Store hr
              have jr65_0_0 := gr65_0_0; unfold I64 at jr65_0_0
              have HH357 := HH356.unF rfl
              refine ⟨_, rfl, fun a_358 HE359 => hK355 _ _ ?_⟩
              refine pl_x HE359 HH357 (wt0 rfl) (x_move rfl) rfl rfl fun a_360 HE361 => ?_
              refine pl_x HE361 HH357 (wt0 rfl) (x_extract rfl rfl) rfl rfl fun a_362 HE363 => ?_
              refine pl_x HE363 HH357 (wt0 rfl) (x_extract rfl rfl) rfl rfl fun a_364 HE365 => ?_
              refine pl fun K_366 hK367 => ?_
              refine st_alloc HE365 HH357 tv_55 (wt0 rfl) rfl fun q66 a_368 w' HE369 HH370 => hK367 _ _ ?_
              refine pl fun K_371 hK372 => ?_
              refine st_store (vs := [.int .i64 ((stepS2 a0 y).1.1), .slice Ar65_0_1 ((stepS2 a0 y).1.2.length) cr65_0_1]) 0 HE369 HH370 tv_55 rfl rfl rfl rfl rfl rfl (by simp [Value.oneCell']) (wt0 rfl) fun w' HH373 => hK372 _ _ ?_
              refine pl_x HE369 HH373 (wt0 rfl) (x_assign rfl) rfl rfl fun a_374 HE375 => ?_
              refine wpList_nil ?_
              clear a_350 HE351 HH335 HH356 a_352 HE353 a_358 HE359 a_360 HE361 a_362 HE363 K_354 hK355 a_364 HE365 HH357 K_366 hK367 HH370 a_368 HE369 hK372 K_371
              refine nrm ?_
              refine wp_seq ?_
              refine wp_seq ?_
              refine rg ?_
              refine pl_x HE375 HH373 (wt0 rfl) (x_move rfl) rfl rfl fun a_376 HE377 => ?_
              refine pl_x HE377 HH373 (wt0 rfl) (x_not rfl) rfl rfl fun a_378 HE379 => ?_
              refine wpList_nil ?_
              clear a_374 HE375 a_376 HE377
              refine nrm ?_
              refine cnd_nb HE379 rfl (fun hc67 => ?_) (fun hc67 => ?_)
              · refine wp_seq ?_
                refine rg ?_
                refine pl_x HE379 HH373 (wt0 rfl) (x_assign rfl) rfl rfl fun a_380 HE381 => ?_
                refine pl_x HE381 HH373 (wt0 rfl) (x_assign rfl) rfl rfl fun a_382 HE383 => ?_
                refine wpList_nil ?_
                clear a_378 HE379 a_380 HE381
                refine nrm ?_
                refine wp_ret ?_
                refine (thn_ret (blk_ret (thn_ret (thn_ret (blk_ret (thn_ret ?_))))))
                refine ret2 HE383 rfl (rv_tmp rfl) (rv_tmp rfl) ?_
                have hF : (traceProg a0 a1 a2) = ([], 5) := by
                  first | (simp [traceProg, hc23, hc25, p61_0, p61_1, p61_2, p61_3, hc62, hc64, hc67]; done) | grind [traceProg, askS] | (have hq := p61_2; rw [traceF_eq] at hq; unfold traceProg; grind [haltsS, stepS2])
                exact ⟨none, 0, by rw [hF] <;> rfl, by rw [hF]; exact (So.nil (Nat.zero_le _)), HH373.below⟩
              · refine wp_skip ?_
                refine nrm ?_
                refine wp_seq ?_
                refine rg ?_
                refine pl_x HE379 HH373 (wt0 rfl) (x_loadN (cs := [.int .i64 ((stepS2 a0 y).1.1), .slice Ar65_0_1 ((stepS2 a0 y).1.2.length) cr65_0_1]) tv_55 rfl rfl (c_blkN 0 rfl)) rfl rfl fun a_384 HE385 => ?_
                refine pl fun K_386 hK387 => ?_
                refine st_store (vs := [.int .i64 ((stepS2 a0 y).1.1), .slice Ar65_0_1 ((stepS2 a0 y).1.2.length) cr65_0_1]) 4 HE385 HH373 tv_55 rfl rfl rfl rfl rfl rfl (by simp [Value.oneCell']) (wt0 rfl) fun w' HH388 => hK387 _ _ ?_
                refine wpList_nil ?_
                clear a_378 HE379 HH373 hK387 K_386
                refine nrm ?_
                refine dr_start (Held Nob w [rBlk q66 55 [.int .i64 ((stepS2 a0 y).1.1), .slice Ar65_0_1 ((stepS2 a0 y).1.2.length) cr65_0_1], rSo eInt Sr65 Ar65_0_1 cr65_0_1 ((stepS2 a0 y).1.2), rSo eInt S_10_1 A_10_1 c_10_1 y.2, rBlk q55 55 [.int .i64 ((stepS2 a0 y).1.1), .slice Ar65_0_1 ((stepS2 a0 y).1.2.length) cr65_0_1], rBlk q21 55 [.int .i64 (a1.1), .slice Az1_1 (a1.2.length) cz1_1]]) 10 #[false, false, false, false, false, false, false, false, false, false] hmix rfl rfl HH388 (fun _ h => h.sel [0, 1, 3, 4, 5] (by decide) rfl) fun w' HH389 => ?_
                have HS390 := HH389.sel [0, 1, 3, 4, 5] (by decide) rfl
                refine dr_take (i := 0) (ls' := #[true, false, false, false, false, false, false, false, false, false]) HE385 HS390 rfl (by kernel_rfl) (by kernel_rfl) (by kernel_rfl) (fun _ _ _ h => h) rfl (wt0 rfl) (x_move rfl) rfl rfl fun a_391 HE392 => ?_
                refine dr_take (i := 1) (ls' := #[true, true, false, false, false, false, false, false, false, false]) HE392 HS390 rfl (by kernel_rfl) (by kernel_rfl) (by kernel_rfl) (fun _ _ _ h => h) rfl (wt0 rfl) (x_fieldAddr fa_55_0 rfl) rfl rfl fun a_393 HE394 => ?_
                refine dr_take (i := 2) (ls' := #[true, true, true, false, false, false, false, false, false, false]) HE394 HS390 rfl (by kernel_rfl) (by kernel_rfl) (by kernel_rfl) (fun _ _ _ h => h) rfl (wt0 rfl) (x_load1 tv_2 rfl (c_blk 3 rfl rfl)) rfl rfl fun a_395 HE396 => ?_
                refine dr_take (i := 3) (ls' := #[true, true, true, true, false, false, false, false, false, false]) HE396 HS390 rfl (by kernel_rfl) (by kernel_rfl) (by kernel_rfl) (fun _ _ _ h => h) rfl (wt0 rfl) (x_fieldAddr fa_55_1 rfl) rfl rfl fun a_397 HE398 => ?_
                refine dr_take (i := 4) (ls' := #[true, true, true, true, true, false, false, false, false, false]) HE398 HS390 rfl (by kernel_rfl) (by kernel_rfl) (by kernel_rfl) (fun _ _ _ h => h) rfl (wt0 rfl) (x_load1 tv_31 rfl (c_blk 3 rfl rfl)) rfl rfl fun a_399 HE400 => ?_
                refine dr_one (i := 5) (ls' := #[true, true, true, true, true, true, false, false, false, false]) rfl (by kernel_rfl) rfl fun K_401 hK402 => ?_
                refine st_call HE400 (wt0 rfl) rfl rfl rfl en_100 rfl rfl (spec_l00Own _ _ ((stepS2 a0 y).1.2) _ (HH389.sl (i := 1) rfl) (by omega)) fun e w' hr => ?_
                obtain ⟨Ar68_0, cr68_0, rfl, hor68_0, hbr68⟩ := hr
                obtain ⟨Sr68, HH403⟩ := HH389.newS hbr68 hor68_0
                refine ⟨_, rfl, fun a_404 HE405 => hK402 _ _ (by exact HH403.sel [1, 2, 4, 5, 6] (by decide) rfl) ?_⟩
                have HS406 := HH403.sel [1, 2, 4, 5, 6] (by decide) rfl
                refine dr_take (i := 6) (ls' := #[true, true, true, true, true, true, true, false, false, false]) HE405 HS406 rfl (by kernel_rfl) (by kernel_rfl) (by kernel_rfl) (fun _ _ _ h => h) rfl (wt0 rfl) (show XS _ _ _ _ (.agg #[.int .i64 ((stepS2 a0 y).1.1), .slice Ar68_0 (((stepS2 a0 y).1.2).length) cr68_0]) from x_build (vs := [(0, .int .i64 ((stepS2 a0 y).1.1)), (1, .slice Ar68_0 (((stepS2 a0 y).1.2).length) cr68_0)]) tb_55 rfl (by simp [Value.oneCell'])) rfl rfl fun a_407 HE408 => ?_
                refine dr_one (i := 7) (ls' := #[true, true, true, true, true, true, true, true, false, false]) rfl (by kernel_rfl) rfl fun K_409 hK410 => ?_
                refine st_lit (m := 1) (cs := [.int .i64 ((stepS2 a0 y).1.1), .slice Ar68_0 (((stepS2 a0 y).1.2).length) cr68_0]) (e := 55) HE408 HH403 (run_lit ts_52 HE408 (vs := [.agg #[.int .i64 ((stepS2 a0 y).1.1), .slice Ar68_0 (((stepS2 a0 y).1.2).length) cr68_0]]) rfl rfl (by simp [Value.cells]) rfl (by decide)) (wt0 rfl) rfl rfl fun q69 a_411 w' HE412 HH413 => hK410 _ _ (by exact HH413.sel [2, 3, 5, 6, 7] (by decide) rfl) ?_
                have HS414 := HH413.sel [2, 3, 5, 6, 7] (by decide) rfl
                refine dr_one (i := 8) (ls' := #[true, true, true, true, true, true, true, true, true, false]) rfl (by kernel_rfl) rfl fun K_415 hK416 => ?_
                have HH417 := HH413.sel [1, 0, 2, 3, 4, 5, 6, 7] (by decide) rfl
                have HH418 := HH417.pairF (E := eInt) (c1 := [.int .i64 ((stepS2 a0 y).1.1)]) (x := (stepS2 a0 y).1.1) (oI (by exact ⟨by omega, by omega⟩))
                obtain ⟨S73, HH419⟩ : ∃ S, Held Nob w (rO eStore S [.int .i64 ((stepS2 a0 y).1.1), .slice Ar68_0 (((stepS2 a0 y).1.2).length) cr68_0] ((stepS2 a0 y).1.1, ((stepS2 a0 y).1.2)) :: _) _ := ⟨_, HH418⟩
                refine st_app1 HE412 HH419 ts_52 [4, 0, 1, 2, 3, 5, 6, 7] (by decide) rfl rfl rfl (by simp [Value.oneCell']) (by unfold maxLen; first | omega | (simp; done) | (simp; omega)) (by first | omega | (simp; done) | (simp; omega)) (wt0 rfl) rfl fun A70 c71 S72 a_420 w' HE421 HH422 => hK416 _ _ (by exact HH422.sel [2, 3, 4, 5, 6] (by decide) rfl) ?_
                have HS423 := HH422.sel [2, 3, 4, 5, 6] (by decide) rfl
                refine dr_take (i := 9) (ls' := #[true, true, true, true, true, true, true, true, true, true]) HE421 HS423 rfl (by kernel_rfl) (by kernel_rfl) (by kernel_rfl) (fun _ _ _ h => h) rfl (wt0 rfl) (x_assign rfl) rfl rfl fun a_424 HE425 => ?_
                refine dr_done (by kernel_rfl) ?_
                clear HH388 HS277 a_384 HE385 a_391 HE392 a_393 HE394 a_395 HE396 a_397 HE398 HH389 a_399 HE400 HS390 a_404 HE405 K_401 hK402 a_407 HE408 HH403 HS406 K_409 hK410 HH413 HH417 HH418 a_411 HE412 HH419 HS414 a_420 HE421 hK416 K_415
                refine blk_n ?_
                refine nrm ?_
                refine rg ?_
                refine pl_x HE425 HH422 (wt0 rfl) (x_move rfl) rfl rfl fun a_426 HE427 => ?_
                refine pl_x HE427 HH422 (wt0 rfl) (x_sub rfl rfl (by exact ⟨by omega, by omega⟩)) rfl rfl fun a_428 HE429 => ?_
                refine pl_x HE429 HH422 (wt0 rfl) (x_assign rfl) rfl rfl fun a_430 HE431 => ?_
                refine wpList_nil ?_
                clear a_424 HE425 a_426 HE427 a_428 HE429
                have E74 : ((l ++ [y])) ++ [((stepS a0 y).2)] = (l ++ [y] ++ [((stepS2 a0 y).1.1, ((stepS2 a0 y).1.2))]) := by
                  first | rfl | simp
                have E75 : ((stepS a0 y).2).2 = (stepS2 a0 y).1.2 := by
                  first | rfl | simp
                have E76 : ((stepS a0 y).2).1 = (stepS2 a0 y).1.1 := by first | rfl | omega | (simp [hc23, hc25, p61_0, p61_1, p61_2, p61_3, hc62, hc64, hc67]; done)
                exact nrm ⟨(a2 - ((k + 1) : Int)).toNat, (by omega), k + 1, (stepS a0 y).2, (l ++ [y]), A70, c71, S72, Ar65_0_1, cr65_0_1, Sr65, rfl, HE431.sub ⟨(lkI rfl (by first | rfl | omega | (simp [hc23, hc25, p61_0, p61_1, p61_2, p61_3, hc62, hc64, hc67]; done))), (by rw [E74]; rfl), rfl, rfl, trivial⟩, ((HH422.sel [0, 3, 5, 6] (by decide) rfl).to (by first | rfl | (rw [E74, E75, E76]; done) | (rw [E74, E75, E76]; rfl) | (simp only [E74, E75, E76]; done) | (simp only [E74, E75, E76]; rfl))), (by first | omega | assumption | (simp; done) | simp_all), (by exact storeOf_step (validStore_prog hV) p61_1 (by omega) hc67), (by rw [p61_2, traceF_step (g := (a2 - ((k + 1 : Nat) : Int)).toNat) (by omega) (by omega) hc67]; simp), (by simp; omega)⟩
            · refine wp_exit ?_
              refine (thn_exit (thn_exit (blk_hit ?_)))
              refine nrm ?_
              refine wp_seq ?_
              refine rg ?_
              refine pl_x HE351 HH335 (wt0 rfl) (x_move rfl) rfl rfl fun a_432 HE433 => ?_
              refine pl_x HE433 HH335 (wt0 rfl) (x_assign rfl) rfl rfl fun a_434 HE435 => ?_
              refine pl_x HE435 HH335 (wt0 rfl) (x_assign rfl) rfl rfl fun a_436 HE437 => ?_
              refine wpList_nil ?_
              clear a_350 HE351 a_432 HE433 a_434 HE435
              refine nrm ?_
              refine wp_ret ?_
              refine ret2 HE437 rfl (rv_tmp rfl) (rv_tmp rfl) ?_
              have HH438 := HH335.vecSo
              have hF : (traceProg a0 a1 a2) = (l ++ [y], 0) := by
                first | (simp [traceProg, hc23, hc25, p61_0, p61_1, p61_2, p61_3, hc62, hc64]; done) | grind [traceProg, askS] | (have hq := p61_2; rw [traceF_eq] at hq; unfold traceProg; grind [haltsS, stepS2])
              exact ⟨A_9, c_9, by rw [hF] <;> rfl, by rw [hF]; exact (HH438.so (i := 0) rfl), HH438.below⟩
          · refine pl_no HE341 (wtF HE341 rfl rfl rfl (decide_eq_false hc62)) rfl rfl fun a_439 HE440 => ?_
            refine pl_no HE440 (wtF HE440 rfl rfl rfl (decide_eq_false hc62)) rfl rfl fun a_441 HE442 => ?_
            refine pl_no HE442 (wtF HE442 rfl rfl rfl (decide_eq_false hc62)) rfl rfl fun a_443 HE444 => ?_
            refine pl_x HE444 HH335 (wt0 rfl) (x_pickF rfl (decide_eq_false hc62) rfl) rfl rfl fun a_445 HE446 => ?_
            refine wpList_nil ?_
            clear a_278 HE279 HH276 HH326 HH327 HH328 HH329 HH330 HH331 a_324 HE325 HH332 a_333 HE334 a_336 HE337 a_338 HE339 a_340 HE341 a_439 HE440 a_441 HE442 a_443 HE444
            refine nrm ?_
            refine cndF HE446 rfl rfl ?_
            refine wp_exit ?_
            refine (thn_exit (thn_exit (blk_hit ?_)))
            refine nrm ?_
            refine wp_seq ?_
            refine rg ?_
            refine pl_x HE446 HH335 (wt0 rfl) (x_move rfl) rfl rfl fun a_447 HE448 => ?_
            refine pl_x HE448 HH335 (wt0 rfl) (x_assign rfl) rfl rfl fun a_449 HE450 => ?_
            refine pl_x HE450 HH335 (wt0 rfl) (x_assign rfl) rfl rfl fun a_451 HE452 => ?_
            refine wpList_nil ?_
            clear a_445 HE446 a_447 HE448 a_449 HE450
            refine nrm ?_
            refine wp_ret ?_
            refine ret2 HE452 rfl (rv_tmp rfl) (rv_tmp rfl) ?_
            have HH453 := HH335.vecSo
            have hF : (traceProg a0 a1 a2) = (l ++ [y], 0) := by
              first | (simp [traceProg, hc23, hc25, p61_0, p61_1, p61_2, p61_3, hc62]; done) | grind [traceProg, askS] | (have hq := p61_2; rw [traceF_eq] at hq; unfold traceProg; grind [haltsS, stepS2])
            exact ⟨A_9, c_9, by rw [hF] <;> rfl, by rw [hF]; exact (HH453.so (i := 0) rfl), HH453.below⟩
  · refine pl_no HE27 (wtF HE27 rfl rfl rfl (beq_f hc23)) rfl rfl fun a_454 HE455 => ?_
    refine pl_no HE455 (wtF HE455 rfl rfl rfl (beq_f hc23)) rfl rfl fun a_456 HE457 => ?_
    refine pl_no HE457 (wtF HE457 rfl rfl rfl (beq_f hc23)) rfl rfl fun a_458 HE459 => ?_
    refine pl_x HE459 HH17 (wt0 rfl) (x_pickF rfl (beq_f hc23) rfl) rfl rfl fun a_460 HE461 => ?_
    refine wpList_nil ?_
    clear a_20 HE21 a_22 HE23 a_24 HE25 a_26 HE27 a_454 HE455 a_456 HE457 a_458 HE459
    refine nrm ?_
    refine cndF HE461 rfl rfl ?_
    refine wp_skip ?_
    refine nrm ?_
    refine wp_seq ?_
    refine wp_seq ?_
    refine rg ?_
    refine pl_x HE461 HH17 (wt0 rfl) (x_move rfl) rfl rfl fun a_462 HE463 => ?_
    refine pl_x HE463 HH17 (wt0 rfl) (x_neq rfl rfl) rfl rfl fun a_464 HE465 => ?_
    refine wpList_nil ?_
    clear a_460 HE461 a_462 HE463
    refine nrm ?_
    refine cndT HE465 rfl (bne_t hc23) ?_
    refine wp_seq ?_
    refine rg ?_
    refine pl_x HE465 HH17 (wt0 rfl) (x_move rfl) rfl rfl fun a_466 HE467 => ?_
    refine pl_x HE467 HH17 (wt0 rfl) (x_assign rfl) rfl rfl fun a_468 HE469 => ?_
    refine pl_x HE469 HH17 (wt0 rfl) (x_assign rfl) rfl rfl fun a_470 HE471 => ?_
    refine wpList_nil ?_
    clear a_464 HE465 a_466 HE467 a_468 HE469
    refine nrm ?_
    refine wp_ret ?_
    refine (thn_ret ?_)
    refine ret2 HE471 rfl (rv_tmp rfl) (rv_tmp rfl) ?_
    have hF : (traceProg a0 a1 a2) = ([], (askS a0 a1)) := by
      first | (simp [traceProg, hc23]; done) | grind [traceProg, askS] | (have hq := p0_2; rw [traceF_eq] at hq; unfold traceProg; grind [haltsS, stepS2])
    exact ⟨none, 0, by rw [hF] <;> rfl, by rw [hF]; exact (So.nil (Nat.zero_le _)), HH17.below⟩

set_option maxRecDepth 100000 in
set_option maxHeartbeats 4000000 in
theorem law_TraceProgram (A0 : Option Addr) (c0 : Nat) (a0 : (List tInstr)) (es1 : List Value) (a1 : tStore) (a2 : Int) (w : World) (h0 : Sl eInstr w (Old w) A0 c0 a0) (h1 : eStore.R w (Old w) es1 a1) (h2 : I64 a2) :
    Calls Try.prog 6 #[.slice A0 a0.length c0, .agg es1.toArray, .int .i64 a2] w fun e w' => e = .returned (.bool true) ∧ Below w.heap.size w w' := by
  have l0 := h0.len
  have H1 := h1
  obtain ⟨Az1_1, cz1_1, rfl, gz1_0, gz1_1⟩ := shape_Store h1
  have jz1_0 := gz1_0; unfold I64 at jz1_0
  have lz1_1 := gz1_1.len
  unfold I64 at h2
  have m0 := ct_cost_SInstr a0
  have m1 := cv_cost_Store a1
  have n0 : (ct_SStore (traceProg a0 a1 a2).1 : Int) ≤ 1000000000 := traceProg_ct a0 a1 a2
  have HH1 := Held.start Nob w
  refine enter (n := 124) Try.func6 rfl rfl rfl fun a_2 HE3 => ?_
  refine wp_seq ?_
  refine rg ?_
  refine pl fun K_4 hK5 => ?_
  refine st_box (cs := [.int .i64 (a1.1), .slice Az1_1 (a1.2.length) cz1_1]) HE3 HH1 rfl rfl (wt0 rfl) rfl fun q21 a_6 w' HE7 HH8 => hK5 _ _ ?_
  refine pl_x HE7 HH8 (wt0 rfl) (x_assign rfl) rfl rfl fun a_9 HE10 => ?_
  refine wpList_nil ?_
  clear a_2 HE3 HH1 a_6 HE7 hK5 K_4
  refine nrm ?_
  refine wp_seq ?_
  refine rg ?_
  refine pl_x HE10 HH8 (wt0 rfl) (x_assign rfl) rfl rfl fun a_11 HE12 => ?_
  refine wpList_nil ?_
  clear a_9 HE10
  refine nrm ?_
  refine wp_seq ?_
  refine rg ?_
  refine pl_x HE12 HH8 (wt0 rfl) (x_move rfl) rfl rfl fun a_13 HE14 => ?_
  refine pl_x HE14 HH8 (wt0 rfl) (x_move rfl) rfl rfl fun a_15 HE16 => ?_
  refine pl fun K_17 hK18 => ?_
  refine st_call HE16 (wt0 rfl) rfl rfl rfl en_15 rfl rfl (sz_InstrS _ _ a0 1048576 _ (HH8.old h0) (by omega) (by omega)) fun e w' hr => ?_
  obtain ⟨rfl, hbr22⟩ := hr
  have HH19 := HH8.on hbr22
  clear hbr22
  refine ⟨_, rfl, fun a_20 HE21 => hK18 _ _ ?_⟩
  refine pl_x HE21 HH19 (wt0 rfl) (x_assign rfl) rfl rfl fun a_22 HE23 => ?_
  refine wpList_nil ?_
  clear a_11 HE12 a_13 HE14 HH8 a_15 HE16 a_20 HE21 hK18 K_17
  refine nrm ?_
  refine wp_seq ?_
  refine wp_seq ?_
  refine rg ?_
  refine pl_x HE23 HH19 (wt0 rfl) (x_move rfl) rfl rfl fun a_24 HE25 => ?_
  refine pl_x HE25 HH19 (wt0 rfl) (x_lss rfl rfl) rfl rfl fun a_26 HE27 => ?_
  refine wpList_nil ?_
  clear a_22 HE23 a_24 HE25
  refine nrm ?_
  refine cnd_d HE27 rfl (fun hc23 => ?_) (fun hc23 => ?_)
  · refine wp_seq ?_
    refine rg ?_
    refine pl_x HE27 HH19 (wt0 rfl) (x_assign rfl) rfl rfl fun a_28 HE29 => ?_
    refine wpList_nil ?_
    clear a_26 HE27
    refine nrm ?_
    refine wp_ret ?_
    refine (thn_ret ?_)
    refine ret1 HE29 rfl (rv_tmp rfl) ?_
    have hF : true = true := by
      first | rfl | (exfalso; omega)
    exact ⟨by rw [hF] <;> rfl, HH19.below⟩
  · have zr22 := left_ok hc23
    refine wp_skip ?_
    refine nrm ?_
    refine wp_seq ?_
    refine rg ?_
    refine pl_x HE27 HH19 (wt0 rfl) (x_loadN (cs := [.int .i64 (a1.1), .slice Az1_1 (a1.2.length) cz1_1]) tv_50 rfl rfl (c_blkN 0 rfl)) rfl rfl fun a_30 HE31 => ?_
    refine pl_x HE31 HH19 (wt0 rfl) (x_move rfl) rfl rfl fun a_32 HE33 => ?_
    refine pl fun K_34 hK35 => ?_
    refine st_call HE33 (wt0 rfl) rfl rfl rfl en_36 rfl rfl (sz_Store [.int .i64 (a1.1), .slice Az1_1 (a1.2.length) cz1_1] a1 (left 1048576 (cost_SInstr a0)) _ (HH19.oldR H1) (by omega) (by omega)) fun e w' hr => ?_
    obtain ⟨rfl, hbr24⟩ := hr
    have HH36 := HH19.on hbr24
    clear hbr24
    refine ⟨_, rfl, fun a_37 HE38 => hK35 _ _ ?_⟩
    refine pl_x HE38 HH36 (wt0 rfl) (x_assign rfl) rfl rfl fun a_39 HE40 => ?_
    refine wpList_nil ?_
    clear a_26 HE27 a_30 HE31 HH19 a_32 HE33 a_37 HE38 hK35 K_34
    refine nrm ?_
    refine wp_seq ?_
    refine wp_seq ?_
    refine rg ?_
    refine pl_x HE40 HH36 (wt0 rfl) (x_move rfl) rfl rfl fun a_41 HE42 => ?_
    refine pl_x HE42 HH36 (wt0 rfl) (x_lss rfl rfl) rfl rfl fun a_43 HE44 => ?_
    refine wpList_nil ?_
    clear a_39 HE40 a_41 HE42
    refine nrm ?_
    refine cnd_d HE44 rfl (fun hc25 => ?_) (fun hc25 => ?_)
    · refine wp_seq ?_
      refine rg ?_
      refine pl_x HE44 HH36 (wt0 rfl) (x_assign rfl) rfl rfl fun a_45 HE46 => ?_
      refine wpList_nil ?_
      clear a_43 HE44
      refine nrm ?_
      refine wp_ret ?_
      refine (thn_ret ?_)
      refine ret1 HE46 rfl (rv_tmp rfl) ?_
      have hF : true = true := by
        first | rfl | (exfalso; omega)
      exact ⟨by rw [hF] <;> rfl, HH36.below⟩
    · have zr24 := left_ok hc25
      refine wp_skip ?_
      refine nrm ?_
      refine wp_seq ?_
      refine dr_start (Held Nob w [rBlk q21 50 [.int .i64 (a1.1), .slice Az1_1 (a1.2.length) cz1_1]]) 11 #[false, false, false, false, false, false, false, false, false, false, false] hmix rfl rfl HH36 (fun _ h => h.sel [0] (by decide) rfl) fun w' HH47 => ?_
      have HS48 := HH47
      refine dr_take (i := 0) (ls' := #[true, false, false, false, false, false, false, false, false, false, false]) HE44 HS48 rfl (by kernel_rfl) (by kernel_rfl) (by kernel_rfl) (fun _ _ _ h => h) rfl (wt0 rfl) (x_move rfl) rfl rfl fun a_49 HE50 => ?_
      refine dr_take (i := 2) (ls' := #[true, false, true, false, false, false, false, false, false, false, false]) HE50 HS48 rfl (by kernel_rfl) (by kernel_rfl) (by kernel_rfl) (fun _ _ _ h => h) rfl (wt0 rfl) (x_loadN (cs := [.int .i64 (a1.1), .slice Az1_1 (a1.2.length) cz1_1]) tv_50 rfl rfl (c_blkN 0 rfl)) rfl rfl fun a_51 HE52 => ?_
      refine dr_take (i := 4) (ls' := #[true, false, true, false, true, false, false, false, false, false, false]) HE52 HS48 rfl (by kernel_rfl) (by kernel_rfl) (by kernel_rfl) (fun _ _ _ h => h) rfl (wt0 rfl) (x_move rfl) rfl rfl fun a_53 HE54 => ?_
      refine dr_one (i := 1) (ls' := #[true, true, true, false, true, false, false, false, false, false, false]) rfl (by kernel_rfl) rfl fun K_55 hK56 => ?_
      refine st_call HE54 (wt0 rfl) rfl rfl rfl en_17 rfl rfl (to_InstrS _ _ a0 _ (HH47.old h0) (by omega)) fun e w' hr => ?_
      obtain ⟨Ar26, cr26, rfl, hor26, hbr26⟩ := hr
      obtain ⟨Sr26, HH57⟩ := HH47.newS hbr26 hor26
      clear hbr26 hor26
      refine ⟨_, rfl, fun a_58 HE59 => hK56 _ _ (by exact HH57.sel [1] (by decide) rfl) ?_⟩
      have HS60 := HH57.sel [1] (by decide) rfl
      refine dr_one (i := 3) (ls' := #[true, true, true, true, true, false, false, false, false, false, false]) rfl (by kernel_rfl) rfl fun K_61 hK62 => ?_
      refine st_call HE59 (wt0 rfl) rfl rfl rfl en_38 rfl rfl (to_Store [.int .i64 (a1.1), .slice Az1_1 (a1.2.length) cz1_1] a1 _ (HH57.oldR H1) (by omega)) fun e w' hr => ?_
      obtain ⟨esr27, rfl, hor27, hbr27⟩ := hr
      have hr := eStore.read hor27
      obtain ⟨Sr27, HH63⟩ := HH57.newO hbr27 hor27
      obtain ⟨Ar27_1, cr27_1, rfl, gr27_0, gr27_1⟩ := shape_Store hr
      clear hbr27 hor27 gr27_0 gr27_1
      refine ⟨_, rfl, fun a_64 HE65 => hK62 _ _ (by exact HH63.sel [2] (by decide) rfl) ?_⟩
      have HS66 := HH63.sel [2] (by decide) rfl
      refine dr_one (i := 5) (ls' := #[true, true, true, true, true, true, false, false, false, false, false]) rfl (by kernel_rfl) rfl fun K_67 hK68 => ?_
      refine st_call HE65 (wt0 rfl) rfl rfl rfl en_37 rfl rfl (spec_TraceProgram _ _ a0 [.int .i64 (a1.1), .slice Ar27_1 (a1.2.length) cr27_1] a1 a2 _ (HH63.sl (i := 1) rfl) (HH63.rd (i := 0) rfl)) fun e w' hr => ?_
      obtain ⟨Ar28_0, cr28_0, rfl, hor28_0, hbr28⟩ := hr
      obtain ⟨Sr28, HH69⟩ := HH63.newS hbr28 hor28_0
      refine ⟨_, rfl, fun a_70 HE71 => hK68 _ _ (by exact HH69.sel [3] (by decide) rfl) ?_⟩
      have HS72 := HH69.sel [3] (by decide) rfl
      refine dr_take (i := 6) (ls' := #[true, true, true, true, true, true, true, false, false, false, false]) HE71 HS72 rfl (by kernel_rfl) (by kernel_rfl) (by kernel_rfl) (fun _ _ _ h => h) rfl (wt0 rfl) (x_move rfl) rfl rfl fun a_73 HE74 => ?_
      refine dr_take (i := 7) (ls' := #[true, true, true, true, true, true, true, true, false, false, false]) HE74 HS72 rfl (by kernel_rfl) (by kernel_rfl) (by kernel_rfl) (fun _ _ _ h => h) rfl (wt0 rfl) (x_extract rfl rfl) rfl rfl fun a_75 HE76 => ?_
      refine dr_take (i := 8) (ls' := #[true, true, true, true, true, true, true, true, true, false, false]) HE76 HS72 rfl (by kernel_rfl) (by kernel_rfl) (by kernel_rfl) (fun _ _ _ h => h) rfl (wt0 rfl) (x_extract rfl rfl) rfl rfl fun a_77 HE78 => ?_
      refine dr_take (i := 9) (ls' := #[true, true, true, true, true, true, true, true, true, true, false]) HE78 HS72 rfl (by kernel_rfl) (by kernel_rfl) (by kernel_rfl) (fun _ _ _ h => h) rfl (wt0 rfl) (x_assign rfl) rfl rfl fun a_79 HE80 => ?_
      refine dr_take (i := 10) (ls' := #[true, true, true, true, true, true, true, true, true, true, true]) HE80 HS72 rfl (by kernel_rfl) (by kernel_rfl) (by kernel_rfl) (fun _ _ _ h => h) rfl (wt0 rfl) (x_assign rfl) rfl rfl fun a_81 HE82 => ?_
      refine dr_done (by kernel_rfl) ?_
      clear HH36 a_43 HE44 a_49 HE50 a_51 HE52 HH47 a_53 HE54 HS48 K_55 hK56 HH57 a_58 HE59 HS60 K_61 hK62 HH63 a_64 HE65 HS66 a_70 HE71 a_73 HE74 a_75 HE76 a_77 HE78 a_79 HE80 hK68 K_67
      refine nrm ?_
      refine wp_seq ?_
      refine rg ?_
      refine pl_x HE82 HH69 (wt0 rfl) (x_move rfl) rfl rfl fun a_83 HE84 => ?_
      refine pl fun K_85 hK86 => ?_
      refine st_call HE84 (wt0 rfl) rfl rfl rfl en_17 rfl rfl (to_InstrS _ _ a0 _ (HH69.old h0) (by omega)) fun e w' hr => ?_
      obtain ⟨Ar29, cr29, rfl, hor29, hbr29⟩ := hr
      obtain ⟨Sr29, HH87⟩ := HH69.newS hbr29 hor29
      clear hbr29 hor29
      refine ⟨_, rfl, fun a_88 HE89 => hK86 _ _ ?_⟩
      refine pl_x HE89 HH87 (wt0 rfl) (x_assign rfl) rfl rfl fun a_90 HE91 => ?_
      refine wpList_nil ?_
      clear a_81 HE82 HH69 a_83 HE84 a_88 HE89 hK86 K_85
      refine nrm ?_
      refine wp_seq ?_
      refine rg ?_
      refine pl_x HE91 HH87 (wt0 rfl) (x_loadN (cs := [.int .i64 (a1.1), .slice Az1_1 (a1.2.length) cz1_1]) tv_50 rfl rfl (c_blkN 4 rfl)) rfl rfl fun a_92 HE93 => ?_
      refine pl fun K_94 hK95 => ?_
      refine st_call HE93 (wt0 rfl) rfl rfl rfl en_38 rfl rfl (to_Store [.int .i64 (a1.1), .slice Az1_1 (a1.2.length) cz1_1] a1 _ (HH87.oldR H1) (by omega)) fun e w' hr => ?_
      obtain ⟨esr30, rfl, hor30, hbr30⟩ := hr
      have hr := eStore.read hor30
      obtain ⟨Sr30, HH96⟩ := HH87.newO hbr30 hor30
      obtain ⟨Ar30_1, cr30_1, rfl, gr30_0, gr30_1⟩ := shape_Store hr
      clear hbr30 hor30 gr30_0 gr30_1
      refine ⟨_, rfl, fun a_97 HE98 => hK95 _ _ ?_⟩
      refine pl fun K_99 hK100 => ?_
      refine st_alloc HE98 HH96 tv_55 (wt0 rfl) rfl fun q31 a_101 w' HE102 HH103 => hK100 _ _ ?_
      refine pl fun K_104 hK105 => ?_
      refine st_store (vs := [.int .i64 (a1.1), .slice Ar30_1 (a1.2.length) cr30_1]) 0 HE102 HH103 tv_55 rfl rfl rfl rfl rfl rfl (by simp [Value.oneCell']) (wt0 rfl) fun w' HH106 => hK105 _ _ ?_
      refine wpList_nil ?_
      clear a_90 HE91 HH87 a_92 HE93 K_94 hK95 a_97 HE98 HH96 K_99 hK100 HH103 hK105 K_104
      refine nrm ?_
      refine wp_seq ?_
      refine rg ?_
      refine pl_x HE102 HH106 (wt0 rfl) (x_move rfl) rfl rfl fun a_107 HE108 => ?_
      refine pl_x HE108 HH106 (wt0 rfl) (x_loadN (cs := [.int .i64 (a1.1), .slice Ar30_1 (a1.2.length) cr30_1]) tv_55 rfl rfl (c_blkN 0 rfl)) rfl rfl fun a_109 HE110 => ?_
      refine pl_x HE110 HH106 (wt0 rfl) (x_move rfl) rfl rfl fun a_111 HE112 => ?_
      refine pl fun K_113 hK114 => ?_
      refine st_call HE112 (wt0 rfl) rfl rfl rfl en_39 rfl rfl (impl_TraceProgram _ _ a0 [.int .i64 (a1.1), .slice Ar30_1 (a1.2.length) cr30_1] a1 a2 _ (HH106.sl (i := 2) rfl) (HH106.rd (i := 1) rfl)) fun e w' hr => ?_
      obtain ⟨Ar32_0, cr32_0, rfl, hor32_0, hbr32⟩ := hr
      obtain ⟨Sr32, HH115⟩ := HH106.newS hbr32 hor32_0
      refine ⟨_, rfl, fun a_116 HE117 => hK114 _ _ ?_⟩
      refine pl_x HE117 HH115 (wt0 rfl) (x_move rfl) rfl rfl fun a_118 HE119 => ?_
      refine pl_x HE119 HH115 (wt0 rfl) (x_extract rfl rfl) rfl rfl fun a_120 HE121 => ?_
      refine pl_x HE121 HH115 (wt0 rfl) (x_extract rfl rfl) rfl rfl fun a_122 HE123 => ?_
      refine pl_x HE123 HH115 (wt0 rfl) (x_assign rfl) rfl rfl fun a_124 HE125 => ?_
      refine pl_x HE125 HH115 (wt0 rfl) (x_assign rfl) rfl rfl fun a_126 HE127 => ?_
      refine wpList_nil ?_
      clear a_101 HE102 a_107 HE108 a_109 HE110 HH106 a_111 HE112 a_116 HE117 a_118 HE119 a_120 HE121 a_122 HE123 a_124 HE125 hK114 K_113
      refine nrm ?_
      refine wp_seq ?_
      refine wp_seq ?_
      refine rg ?_
      refine pl_x HE127 HH115 (wt0 rfl) (x_move rfl) rfl rfl fun a_128 HE129 => ?_
      refine pl_x HE129 HH115 (wt0 rfl) (x_move rfl) rfl rfl fun a_130 HE131 => ?_
      refine pl fun K_132 hK133 => ?_
      refine st_call HE131 (wt0 rfl) rfl rfl rfl en_40 rfl rfl (eq_SStore_c _ _ _ _ ((traceProg a0 a1 a2).1) ((traceProg a0 a1 a2).1) _ (HH115.sl (i := 0) rfl) (HH115.sl (i := 4) rfl)) fun e w' hr => ?_
      obtain ⟨rfl, hbr33⟩ := hr
      have HH134 := HH115.on hbr33
      clear hbr33
      refine ⟨_, rfl, fun a_135 HE136 => hK133 _ _ ?_⟩
      refine pl_x HE136 HH134 (wt0 rfl) (x_not rfl) rfl rfl fun a_137 HE138 => ?_
      refine pl_x HE138 HH134 (wt0 rfl) (x_move rfl) rfl rfl fun a_139 HE140 => ?_
      refine pl_x HE140 HH134 (wtT HE140 rfl rfl rfl (not_f (eq_SStore_refl _))) (x_move rfl) rfl rfl fun a_141 HE142 => ?_
      refine pl_x HE142 HH134 (wtT HE142 rfl rfl rfl (not_f (eq_SStore_refl _))) (x_move rfl) rfl rfl fun a_143 HE144 => ?_
      refine pl_x HE144 HH134 (wtT HE144 rfl rfl rfl (not_f (eq_SStore_refl _))) (x_neq rfl rfl) rfl rfl fun a_145 HE146 => ?_
      refine pl_x HE146 HH134 (wt0 rfl) (x_pickF rfl (not_f (eq_SStore_refl _)) rfl) rfl rfl fun a_147 HE148 => ?_
      refine wpList_nil ?_
      clear a_126 HE127 a_128 HE129 HH115 a_130 HE131 a_135 HE136 a_137 HE138 a_139 HE140 a_141 HE142 a_143 HE144 a_145 HE146 hK133 K_132
      refine nrm ?_
      refine cndF HE148 rfl (bne_f rfl) ?_
      refine wp_skip ?_
      refine nrm ?_
      refine wp_seq ?_
      refine wp_seq ?_
      refine rg ?_
      refine pl_x HE148 HH134 (wt0 rfl) (x_move rfl) rfl rfl fun a_149 HE150 => ?_
      refine pl_x HE150 HH134 (wt0 rfl) (x_move rfl) rfl rfl fun a_151 HE152 => ?_
      refine pl fun K_153 hK154 => ?_
      refine st_call HE152 (wt0 rfl) rfl rfl rfl en_17 rfl rfl (to_InstrS _ _ a0 _ (HH134.old h0) (by omega)) fun e w' hr => ?_
      obtain ⟨Ar34, cr34, rfl, hor34, hbr34⟩ := hr
      obtain ⟨Sr34, HH155⟩ := HH134.newS hbr34 hor34
      clear hbr34 hor34
      refine ⟨_, rfl, fun a_156 HE157 => hK154 _ _ ?_⟩
      refine pl fun K_158 hK159 => ?_
      refine st_call HE157 (wt0 rfl) rfl rfl rfl en_19 rfl rfl (eq_SInstr_c _ _ _ _ a0 a0 _ (HH155.sl (i := 4) rfl) (HH155.sl (i := 0) rfl)) fun e w' hr => ?_
      obtain ⟨rfl, hbr35⟩ := hr
      have HH160 := HH155.on hbr35
      clear hbr35
      refine ⟨_, rfl, fun a_161 HE162 => hK159 _ _ ?_⟩
      refine pl_x HE162 HH160 (wt0 rfl) (x_not rfl) rfl rfl fun a_163 HE164 => ?_
      refine wpList_nil ?_
      clear a_147 HE148 a_149 HE150 HH134 a_151 HE152 K_153 hK154 HH155 a_156 HE157 a_161 HE162 hK159 K_158
      refine nrm ?_
      refine cndF HE164 rfl (not_f (eq_SInstr_refl _)) ?_
      refine wp_skip ?_
      refine nrm ?_
      refine wp_seq ?_
      refine wp_seq ?_
      refine dr_start (Held Nob w [rSo eInstr Sr34 Ar34 cr34 a0, rSo eStore Sr32 Ar32_0 cr32_0 ((traceProg a0 a1 a2).1), rBlk q31 55 [.int .i64 (a1.1), .slice Ar30_1 (a1.2.length) cr30_1], rO eStore Sr30 [.int .i64 (a1.1), .slice Ar30_1 (a1.2.length) cr30_1] a1, rSo eInstr Sr29 Ar29 cr29 a0, rSo eStore Sr28 Ar28_0 cr28_0 ((traceProg a0 a1 a2).1), rO eStore Sr27 [.int .i64 (a1.1), .slice Ar27_1 (a1.2.length) cr27_1] a1, rSo eInstr Sr26 Ar26 cr26 a0, rBlk q21 50 [.int .i64 (a1.1), .slice Az1_1 (a1.2.length) cz1_1]]) 5 #[false, false, false, false, false] hmix rfl rfl HH160 (fun _ h => h.sel [0, 1, 2, 3, 4, 5, 6, 7, 8] (by decide) rfl) fun w' HH165 => ?_
      have HS166 := HH165
      refine dr_take (i := 0) (ls' := #[true, false, false, false, false]) HE164 HS166 rfl (by kernel_rfl) (by kernel_rfl) (by kernel_rfl) (fun _ _ _ h => h) rfl (wt0 rfl) (x_loadN (cs := [.int .i64 (a1.1), .slice Ar30_1 (a1.2.length) cr30_1]) tv_55 rfl rfl (c_blkN 2 rfl)) rfl rfl fun a_167 HE168 => ?_
      refine dr_take (i := 1) (ls' := #[true, true, false, false, false]) HE168 HS166 rfl (by kernel_rfl) (by kernel_rfl) (by kernel_rfl) (fun _ _ _ h => h) rfl (wt0 rfl) (x_loadN (cs := [.int .i64 (a1.1), .slice Az1_1 (a1.2.length) cz1_1]) tv_50 rfl rfl (c_blkN 8 rfl)) rfl rfl fun a_169 HE170 => ?_
      refine dr_one (i := 2) (ls' := #[true, true, true, false, false]) rfl (by kernel_rfl) rfl fun K_171 hK172 => ?_
      refine st_call HE170 (wt0 rfl) rfl rfl rfl en_38 rfl rfl (to_Store [.int .i64 (a1.1), .slice Az1_1 (a1.2.length) cz1_1] a1 _ (HH165.oldR H1) (by omega)) fun e w' hr => ?_
      obtain ⟨esr36, rfl, hor36, hbr36⟩ := hr
      have hr := eStore.read hor36
      obtain ⟨Sr36, HH173⟩ := HH165.newO hbr36 hor36
      obtain ⟨Ar36_1, cr36_1, rfl, gr36_0, gr36_1⟩ := shape_Store hr
      clear hbr36 hor36 gr36_0 gr36_1
      refine ⟨_, rfl, fun a_174 HE175 => hK172 _ _ (by exact HH173.sel [1, 2, 3, 4, 5, 6, 7, 8, 9] (by decide) rfl) ?_⟩
      have HS176 := HH173.sel [1, 2, 3, 4, 5, 6, 7, 8, 9] (by decide) rfl
      refine dr_one (i := 3) (ls' := #[true, true, true, true, false]) rfl (by kernel_rfl) rfl fun K_177 hK178 => ?_
      refine st_call HE175 (wt0 rfl) rfl rfl rfl en_41 rfl rfl (eq_Store_c [.int .i64 (a1.1), .slice Ar30_1 (a1.2.length) cr30_1] [.int .i64 (a1.1), .slice Ar36_1 (a1.2.length) cr36_1] a1 a1 _ (HH173.rd (i := 4) rfl) (HH173.rd (i := 0) rfl)) fun e w' hr => ?_
      obtain ⟨rfl, hbr37⟩ := hr
      have HH179 := HH173.on hbr37
      clear hbr37
      refine ⟨_, rfl, fun a_180 HE181 => hK178 _ _ (by exact HH179.sel [1, 2, 3, 4, 5, 6, 7, 8, 9] (by decide) rfl) ?_⟩
      have HS182 := HH179.sel [1, 2, 3, 4, 5, 6, 7, 8, 9] (by decide) rfl
      refine dr_take (i := 4) (ls' := #[true, true, true, true, true]) HE181 HS182 rfl (by kernel_rfl) (by kernel_rfl) (by kernel_rfl) (fun _ _ _ h => h) rfl (wt0 rfl) (x_not rfl) rfl rfl fun a_183 HE184 => ?_
      refine dr_done (by kernel_rfl) ?_
      clear HH160 HS72 a_163 HE164 a_167 HE168 HH165 a_169 HE170 HS166 K_171 hK172 HH173 a_174 HE175 HS176 a_180 HE181 hK178 K_177
      refine nrm ?_
      refine cndF HE184 rfl (not_f (eq_Store_refl _)) ?_
      refine wp_skip ?_
      refine nrm ?_
      refine wp_seq ?_
      refine rg ?_
      refine pl_x HE184 HH179 (wt0 rfl) (x_assign rfl) rfl rfl fun a_185 HE186 => ?_
      refine wpList_nil ?_
      clear a_183 HE184
      refine nrm ?_
      refine wp_seq ?_
      refine rg ?_
      refine pl_x HE186 HH179 (wt0 rfl) (x_move rfl) rfl rfl fun a_187 HE188 => ?_
      refine pl_x HE188 HH179 (wt0 rfl) (x_move rfl) rfl rfl fun a_189 HE190 => ?_
      refine pl fun K_191 hK192 => ?_
      refine st_call HE190 (wt0 rfl) rfl rfl rfl en_20 rfl rfl (mark_SInstr_c _ _ a0 1 _ _ (so_of_o (HH179.get (i := 5) rfl)) (HH179.lt (i := 5) rfl) (by omega) (by omega)) fun e w' hr => ?_
      obtain ⟨rfl, hsr38, hcr38⟩ := hr
      have HH193 := HH179.mut (i := 5) rfl hcr38 (rSo eInstr Sr29 Ar29 cr29 (mk_SInstr a0 1)) (oSl hsr38) (fun b hb => .inl hb)
      clear hsr38 hcr38
      refine ⟨_, rfl, fun a_194 HE195 => hK192 _ _ ?_⟩
      refine pl_x HE195 HH193 (wt0 rfl) (x_assign rfl) rfl rfl fun a_196 HE197 => ?_
      refine wpList_nil ?_
      clear a_185 HE186 a_187 HE188 HH179 a_189 HE190 a_194 HE195 hK192 K_191
      refine nrm ?_
      refine wp_seq ?_
      refine rg ?_
      refine pl_x HE197 HH193 (wt0 rfl) (x_loadN (cs := [.int .i64 (a1.1), .slice Ar30_1 (a1.2.length) cr30_1]) tv_55 rfl rfl (c_blkN 3 rfl)) rfl rfl fun a_198 HE199 => ?_
      refine pl_x HE199 HH193 (wt0 rfl) (x_move rfl) rfl rfl fun a_200 HE201 => ?_
      refine pl fun K_202 hK203 => ?_
      refine st_call HE201 (wt0 rfl) rfl rfl rfl en_42 rfl rfl (mark_Store_c [.int .i64 (a1.1), .slice Ar30_1 (a1.2.length) cr30_1] a1 (1 + (ct_SInstr a0 : Int)) _ _ (HH193.get (i := 4) rfl) (HH193.lt (i := 4) rfl) (by omega) (by omega)) fun e w' hr => ?_
      obtain ⟨rfl, hsr39, hcr39⟩ := hr
      have HH204 := HH193.mut (i := 4) rfl hcr39 (rO eStore Sr30 [.int .i64 (a1.1), .slice Ar30_1 (a1.2.length) cr30_1] (mv_Store a1 (1 + (ct_SInstr a0 : Int)))) hsr39 (fun b hb => .inl hb)
      clear hsr39 hcr39
      refine ⟨_, rfl, fun a_205 HE206 => hK203 _ _ ?_⟩
      refine pl_x HE206 HH204 (wt0 rfl) (x_assign rfl) rfl rfl fun a_207 HE208 => ?_
      refine wpList_nil ?_
      clear a_196 HE197 a_198 HE199 HH193 a_200 HE201 a_205 HE206 hK203 K_202
      refine nrm ?_
      refine wp_seq ?_
      refine wp_seq ?_
      refine rg ?_
      refine pl_x HE208 HH204 (wt0 rfl) (x_move rfl) rfl rfl fun a_209 HE210 => ?_
      refine pl_x HE210 HH204 (wt0 rfl) (x_lss rfl rfl) rfl rfl fun a_211 HE212 => ?_
      refine pl_x HE212 HH204 (wt0 rfl) (x_move rfl) rfl rfl fun a_213 HE214 => ?_
      by_cases hc40 : ((1 + (ct_SInstr a0 : Int)) + (cv_Store a1 : Int)) < 0
      · refine pl_no HE214 (wtF HE214 rfl rfl rfl (decide_eq_true hc40)) rfl rfl fun a_215 HE216 => ?_
        refine pl_no HE216 (wtF HE216 rfl rfl rfl (decide_eq_true hc40)) rfl rfl fun a_217 HE218 => ?_
        refine pl_no HE218 (wtF HE218 rfl rfl rfl (decide_eq_true hc40)) rfl rfl fun a_219 HE220 => ?_
        refine pl_no HE220 (wtF HE220 rfl rfl rfl (decide_eq_true hc40)) rfl rfl fun a_221 HE222 => ?_
        refine pl_x HE222 HH204 (wt0 rfl) (x_pickT rfl (decide_eq_true hc40) rfl) rfl rfl fun a_223 HE224 => ?_
        refine pl_x HE224 HH204 (wt0 rfl) (x_move rfl) rfl rfl fun a_225 HE226 => ?_
        refine pl_no HE226 (wtF HE226 rfl rfl rfl rfl) rfl rfl fun a_227 HE228 => ?_
        refine pl_no HE228 (wtF HE228 rfl rfl rfl rfl) rfl rfl fun a_229 HE230 => ?_
        refine pl_no HE230 (wtF HE230 rfl rfl rfl rfl) rfl rfl fun a_231 HE232 => ?_
        refine pl_x HE232 HH204 (wt0 rfl) (x_pickT rfl rfl rfl) rfl rfl fun a_233 HE234 => ?_
        refine wpList_nil ?_
        clear a_207 HE208 a_209 HE210 a_211 HE212 a_213 HE214 a_215 HE216 a_217 HE218 a_219 HE220 a_221 HE222 a_223 HE224 a_225 HE226 a_227 HE228 a_229 HE230 a_231 HE232
        refine nrm ?_
        refine cndT HE234 rfl rfl ?_
        refine wp_seq ?_
        refine rg ?_
        refine pl_x HE234 HH204 (wt0 rfl) (x_assign rfl) rfl rfl fun a_235 HE236 => ?_
        refine wpList_nil ?_
        clear a_233 HE234
        refine nrm ?_
        refine wp_ret ?_
        refine (thn_ret ?_)
        refine ret1 HE236 rfl (rv_tmp rfl) ?_
        have hF : true = false := by
          first | rfl | (exfalso; omega)
        exact ⟨by rw [hF] <;> rfl, HH204.below⟩
      · refine pl_x HE214 HH204 (wtT HE214 rfl rfl rfl (decide_eq_false hc40)) (x_move rfl) rfl rfl fun a_237 HE238 => ?_
        refine pl_x HE238 HH204 (wtT HE238 rfl rfl rfl (decide_eq_false hc40)) (x_move rfl) rfl rfl fun a_239 HE240 => ?_
        refine pl fun K_241 hK242 => ?_
        refine st_call HE240 (wtT HE240 rfl rfl rfl (decide_eq_false hc40)) rfl rfl rfl en_40 rfl rfl (eq_SStore_c _ _ _ _ ((traceProg a0 a1 a2).1) ((traceProg a0 a1 a2).1) _ (HH204.sl (i := 2) rfl) (HH204.sl (i := 6) rfl)) fun e w' hr => ?_
        obtain ⟨rfl, hbr41⟩ := hr
        have HH243 := HH204.on hbr41
        clear hbr41
        refine ⟨_, rfl, fun a_244 HE245 => hK242 _ _ ?_⟩
        refine pl_x HE245 HH243 (wtT HE245 rfl rfl rfl (decide_eq_false hc40)) (x_not rfl) rfl rfl fun a_246 HE247 => ?_
        refine pl_x HE247 HH243 (wt0 rfl) (x_pickF rfl (decide_eq_false hc40) rfl) rfl rfl fun a_248 HE249 => ?_
        refine pl_x HE249 HH243 (wt0 rfl) (x_move rfl) rfl rfl fun a_250 HE251 => ?_
        refine pl_x HE251 HH243 (wtT HE251 rfl rfl rfl (not_f (eq_SStore_refl _))) (x_move rfl) rfl rfl fun a_252 HE253 => ?_
        refine pl_x HE253 HH243 (wtT HE253 rfl rfl rfl (not_f (eq_SStore_refl _))) (x_move rfl) rfl rfl fun a_254 HE255 => ?_
        refine pl_x HE255 HH243 (wtT HE255 rfl rfl rfl (not_f (eq_SStore_refl _))) (x_neq rfl rfl) rfl rfl fun a_256 HE257 => ?_
        refine pl_x HE257 HH243 (wt0 rfl) (x_pickF rfl (not_f (eq_SStore_refl _)) rfl) rfl rfl fun a_258 HE259 => ?_
        refine wpList_nil ?_
        clear a_207 HE208 a_209 HE210 a_211 HE212 a_213 HE214 a_237 HE238 HH204 a_239 HE240 a_244 HE245 a_246 HE247 a_248 HE249 a_250 HE251 a_252 HE253 a_254 HE255 a_256 HE257 hK242 K_241
        refine nrm ?_
        refine cndF HE259 rfl (bne_f rfl) ?_
        refine wp_skip ?_
        refine nrm ?_
        refine wp_seq ?_
        refine rg ?_
        refine pl_x HE259 HH243 (wt0 rfl) (x_assign rfl) rfl rfl fun a_260 HE261 => ?_
        refine wpList_nil ?_
        clear a_258 HE259
        refine nrm ?_
        refine wp_seq ?_
        refine rg ?_
        refine pl_x HE261 HH243 (wt0 rfl) (x_move rfl) rfl rfl fun a_262 HE263 => ?_
        refine pl_x HE263 HH243 (wt0 rfl) (x_move rfl) rfl rfl fun a_264 HE265 => ?_
        refine pl fun K_266 hK267 => ?_
        have HH268 := HH243.sel [2, 0, 1, 3, 4, 5, 6, 7, 8, 9] (by decide) rfl
        have HH269 : Held Nob w ([rSo eStore Sr32 Ar32_0 cr32_0 ((traceProg a0 a1 a2).1)] ++ [rO eStore Sr36 [.int .i64 (a1.1), .slice Ar36_1 (a1.2.length) cr36_1] a1, rSo eInstr Sr34 Ar34 cr34 a0, rBlk q31 55 [.int .i64 (a1.1), .slice Ar30_1 (a1.2.length) cr30_1], rO eStore Sr30 [.int .i64 (a1.1), .slice Ar30_1 (a1.2.length) cr30_1] (mv_Store a1 (1 + (ct_SInstr a0 : Int))), rSo eInstr Sr29 Ar29 cr29 (mk_SInstr a0 1), rSo eStore Sr28 Ar28_0 cr28_0 ((traceProg a0 a1 a2).1), rO eStore Sr27 [.int .i64 (a1.1), .slice Ar27_1 (a1.2.length) cr27_1] a1, rSo eInstr Sr26 Ar26 cr26 a0, rBlk q21 50 [.int .i64 (a1.1), .slice Az1_1 (a1.2.length) cz1_1]]) _ := HH268
        refine st_call HE265 (wt0 rfl) rfl rfl rfl en_43 rfl rfl (mark_SStore_h (Foot [rSo eStore Sr32 Ar32_0 cr32_0 ((traceProg a0 a1 a2).1)]) _ _ ((traceProg a0 a1 a2).1) _ 1 _ HH269.focus (by omega) (by omega)) fun e w' hr => ?_
        obtain ⟨Sr42, rfl, hbr42⟩ := hr
        have HH270 := HH269.back hbr42
        clear hbr42
        have HH271 : Held Nob w (rSo eStore Sr42 Ar32_0 cr32_0 (mk_SStore ((traceProg a0 a1 a2).1) 1) :: [rO eStore Sr36 [.int .i64 (a1.1), .slice Ar36_1 (a1.2.length) cr36_1] a1, rSo eInstr Sr34 Ar34 cr34 a0, rBlk q31 55 [.int .i64 (a1.1), .slice Ar30_1 (a1.2.length) cr30_1], rO eStore Sr30 [.int .i64 (a1.1), .slice Ar30_1 (a1.2.length) cr30_1] (mv_Store a1 (1 + (ct_SInstr a0 : Int))), rSo eInstr Sr29 Ar29 cr29 (mk_SInstr a0 1), rSo eStore Sr28 Ar28_0 cr28_0 ((traceProg a0 a1 a2).1), rO eStore Sr27 [.int .i64 (a1.1), .slice Ar27_1 (a1.2.length) cr27_1] a1, rSo eInstr Sr26 Ar26 cr26 a0, rBlk q21 50 [.int .i64 (a1.1), .slice Az1_1 (a1.2.length) cz1_1]]) _ := HH270
        refine ⟨_, rfl, fun a_272 HE273 => hK267 _ _ ?_⟩
        refine pl_x HE273 HH271 (wt0 rfl) (x_assign rfl) rfl rfl fun a_274 HE275 => ?_
        refine wpList_nil ?_
        clear a_260 HE261 a_262 HE263 HH243 HH268 HH269 HH270 a_264 HE265 a_272 HE273 hK267 K_266
        refine nrm ?_
        refine wp_seq ?_
        refine rg ?_
        refine pl_x HE275 HH271 (wt0 rfl) (x_assign rfl) rfl rfl fun a_276 HE277 => ?_
        refine wpList_nil ?_
        clear a_274 HE275
        refine nrm ?_
        refine wp_seq ?_
        refine rg ?_
        refine pl_x HE277 HH271 (wt0 rfl) (x_move rfl) rfl rfl fun a_278 HE279 => ?_
        refine pl_x HE279 HH271 (wt0 rfl) (x_move rfl) rfl rfl fun a_280 HE281 => ?_
        refine pl fun K_282 hK283 => ?_
        have HE284 := HE281.castS (t := 90) (m' := List.length (mk_SStore ((traceProg a0 a1 a2).1) 1)) rfl (mkL_len _ _ _ _).symm
        refine st_call HE284 (wt0 rfl) rfl rfl rfl en_44 rfl rfl (held_SStore_e _ _ (mk_SStore ((traceProg a0 a1 a2).1) 1) 1 ((traceProg a0 a1 a2).1) _ (HH271.sl (i := 0) rfl) rfl (by omega) (by omega)) fun e w' hr => ?_
        obtain ⟨rfl, hbr43⟩ := hr
        have HH285 := HH271.on hbr43
        clear hbr43
        refine ⟨_, rfl, fun a_286 HE287 => hK283 _ _ ?_⟩
        refine pl_x HE287 HH285 (wt0 rfl) (x_assign rfl) rfl rfl fun a_288 HE289 => ?_
        refine wpList_nil ?_
        clear a_276 HE277 a_278 HE279 HE281 HH271 a_280 HE284 a_286 HE287 hK283 K_282
        refine nrm ?_
        refine wp_seq ?_
        refine wp_seq ?_
        refine rg ?_
        refine pl_x HE289 HH285 (wt0 rfl) (x_move rfl) rfl rfl fun a_290 HE291 => ?_
        refine pl_x HE291 HH285 (wt0 rfl) (x_lss rfl rfl) rfl rfl fun a_292 HE293 => ?_
        refine wpList_nil ?_
        clear a_288 HE289 a_290 HE291
        refine nrm ?_
        refine cnd_d HE293 rfl (fun hc44 => ?_) (fun hc44 => ?_)
        · refine wp_seq ?_
          refine rg ?_
          refine pl_x HE293 HH285 (wt0 rfl) (x_assign rfl) rfl rfl fun a_294 HE295 => ?_
          refine wpList_nil ?_
          clear a_292 HE293
          refine nrm ?_
          refine wp_ret ?_
          refine (thn_ret ?_)
          refine ret1 HE295 rfl (rv_tmp rfl) ?_
          have hF : true = false := by
            first | rfl | (exfalso; omega)
          exact ⟨by rw [hF] <;> rfl, HH285.below⟩
        · refine wp_skip ?_
          refine nrm ?_
          refine wp_seq ?_
          refine wp_seq ?_
          refine rg ?_
          refine pl_x HE293 HH285 (wt0 rfl) (x_move rfl) rfl rfl fun a_296 HE297 => ?_
          refine pl_x HE297 HH285 (wt0 rfl) (x_move rfl) rfl rfl fun a_298 HE299 => ?_
          refine pl_x HE299 HH285 (wt0 rfl) (x_neq rfl rfl) rfl rfl fun a_300 HE301 => ?_
          refine wpList_nil ?_
          clear a_292 HE293 a_296 HE297 a_298 HE299
          refine nrm ?_
          refine cndF HE301 rfl (bne_f rfl) ?_
          refine wp_skip ?_
          refine nrm ?_
          refine wp_seq ?_
          refine dr_start (Held Nob w [rSo eStore Sr42 Ar32_0 cr32_0 (mk_SStore ((traceProg a0 a1 a2).1) 1), rO eStore Sr36 [.int .i64 (a1.1), .slice Ar36_1 (a1.2.length) cr36_1] a1, rSo eInstr Sr34 Ar34 cr34 a0, rBlk q31 55 [.int .i64 (a1.1), .slice Ar30_1 (a1.2.length) cr30_1], rO eStore Sr30 [.int .i64 (a1.1), .slice Ar30_1 (a1.2.length) cr30_1] (mv_Store a1 (1 + (ct_SInstr a0 : Int))), rSo eInstr Sr29 Ar29 cr29 (mk_SInstr a0 1), rSo eStore Sr28 Ar28_0 cr28_0 ((traceProg a0 a1 a2).1), rO eStore Sr27 [.int .i64 (a1.1), .slice Ar27_1 (a1.2.length) cr27_1] a1, rSo eInstr Sr26 Ar26 cr26 a0, rBlk q21 50 [.int .i64 (a1.1), .slice Az1_1 (a1.2.length) cz1_1]]) 11 #[false, false, false, false, false, false, false, false, false, false, false] hmix rfl rfl HH285 (fun _ h => h.sel [0, 1, 2, 3, 4, 5, 6, 7, 8, 9] (by decide) rfl) fun w' HH302 => ?_
          have HS303 := HH302
          refine dr_take (i := 0) (ls' := #[true, false, false, false, false, false, false, false, false, false, false]) HE301 HS303 rfl (by kernel_rfl) (by kernel_rfl) (by kernel_rfl) (fun _ _ _ h => h) rfl (wt0 rfl) (x_move rfl) rfl rfl fun a_304 HE305 => ?_
          refine dr_take (i := 2) (ls' := #[true, false, true, false, false, false, false, false, false, false, false]) HE305 HS303 rfl (by kernel_rfl) (by kernel_rfl) (by kernel_rfl) (fun _ _ _ h => h) rfl (wt0 rfl) (x_loadN (cs := [.int .i64 (a1.1), .slice Az1_1 (a1.2.length) cz1_1]) tv_50 rfl rfl (c_blkN 9 rfl)) rfl rfl fun a_306 HE307 => ?_
          refine dr_take (i := 4) (ls' := #[true, false, true, false, true, false, false, false, false, false, false]) HE307 HS303 rfl (by kernel_rfl) (by kernel_rfl) (by kernel_rfl) (fun _ _ _ h => h) rfl (wt0 rfl) (x_move rfl) rfl rfl fun a_308 HE309 => ?_
          refine dr_one (i := 1) (ls' := #[true, true, true, false, true, false, false, false, false, false, false]) rfl (by kernel_rfl) rfl fun K_310 hK311 => ?_
          refine st_call HE309 (wt0 rfl) rfl rfl rfl en_17 rfl rfl (to_InstrS _ _ a0 _ (HH302.old h0) (by omega)) fun e w' hr => ?_
          obtain ⟨Ar45, cr45, rfl, hor45, hbr45⟩ := hr
          obtain ⟨Sr45, HH312⟩ := HH302.newS hbr45 hor45
          clear hbr45 hor45
          refine ⟨_, rfl, fun a_313 HE314 => hK311 _ _ (by exact HH312.sel [1, 2, 3, 4, 5, 6, 7, 8, 9, 10] (by decide) rfl) ?_⟩
          have HS315 := HH312.sel [1, 2, 3, 4, 5, 6, 7, 8, 9, 10] (by decide) rfl
          refine dr_one (i := 3) (ls' := #[true, true, true, true, true, false, false, false, false, false, false]) rfl (by kernel_rfl) rfl fun K_316 hK317 => ?_
          refine st_call HE314 (wt0 rfl) rfl rfl rfl en_38 rfl rfl (to_Store [.int .i64 (a1.1), .slice Az1_1 (a1.2.length) cz1_1] a1 _ (HH312.oldR H1) (by omega)) fun e w' hr => ?_
          obtain ⟨esr46, rfl, hor46, hbr46⟩ := hr
          have hr := eStore.read hor46
          obtain ⟨Sr46, HH318⟩ := HH312.newO hbr46 hor46
          obtain ⟨Ar46_1, cr46_1, rfl, gr46_0, gr46_1⟩ := shape_Store hr
          clear hbr46 hor46 gr46_0 gr46_1
          refine ⟨_, rfl, fun a_319 HE320 => hK317 _ _ (by exact HH318.sel [2, 3, 4, 5, 6, 7, 8, 9, 10, 11] (by decide) rfl) ?_⟩
          have HS321 := HH318.sel [2, 3, 4, 5, 6, 7, 8, 9, 10, 11] (by decide) rfl
          refine dr_one (i := 5) (ls' := #[true, true, true, true, true, true, false, false, false, false, false]) rfl (by kernel_rfl) rfl fun K_322 hK323 => ?_
          refine st_call HE320 (wt0 rfl) rfl rfl rfl en_39 rfl rfl (impl_TraceProgram _ _ a0 [.int .i64 (a1.1), .slice Ar46_1 (a1.2.length) cr46_1] a1 a2 _ (HH318.sl (i := 1) rfl) (HH318.rd (i := 0) rfl)) fun e w' hr => ?_
          obtain ⟨Ar47_0, cr47_0, rfl, hor47_0, hbr47⟩ := hr
          obtain ⟨Sr47, HH324⟩ := HH318.newS hbr47 hor47_0
          refine ⟨_, rfl, fun a_325 HE326 => hK323 _ _ (by exact HH324.sel [3, 4, 5, 6, 7, 8, 9, 10, 11, 12] (by decide) rfl) ?_⟩
          have HS327 := HH324.sel [3, 4, 5, 6, 7, 8, 9, 10, 11, 12] (by decide) rfl
          refine dr_take (i := 6) (ls' := #[true, true, true, true, true, true, true, false, false, false, false]) HE326 HS327 rfl (by kernel_rfl) (by kernel_rfl) (by kernel_rfl) (fun _ _ _ h => h) rfl (wt0 rfl) (x_move rfl) rfl rfl fun a_328 HE329 => ?_
          refine dr_take (i := 7) (ls' := #[true, true, true, true, true, true, true, true, false, false, false]) HE329 HS327 rfl (by kernel_rfl) (by kernel_rfl) (by kernel_rfl) (fun _ _ _ h => h) rfl (wt0 rfl) (x_extract rfl rfl) rfl rfl fun a_330 HE331 => ?_
          refine dr_take (i := 8) (ls' := #[true, true, true, true, true, true, true, true, true, false, false]) HE331 HS327 rfl (by kernel_rfl) (by kernel_rfl) (by kernel_rfl) (fun _ _ _ h => h) rfl (wt0 rfl) (x_extract rfl rfl) rfl rfl fun a_332 HE333 => ?_
          refine dr_take (i := 9) (ls' := #[true, true, true, true, true, true, true, true, true, true, false]) HE333 HS327 rfl (by kernel_rfl) (by kernel_rfl) (by kernel_rfl) (fun _ _ _ h => h) rfl (wt0 rfl) (x_assign rfl) rfl rfl fun a_334 HE335 => ?_
          refine dr_take (i := 10) (ls' := #[true, true, true, true, true, true, true, true, true, true, true]) HE335 HS327 rfl (by kernel_rfl) (by kernel_rfl) (by kernel_rfl) (fun _ _ _ h => h) rfl (wt0 rfl) (x_assign rfl) rfl rfl fun a_336 HE337 => ?_
          refine dr_done (by kernel_rfl) ?_
          clear HH285 HS182 a_300 HE301 a_304 HE305 a_306 HE307 HH302 a_308 HE309 HS303 K_310 hK311 HH312 a_313 HE314 HS315 K_316 hK317 HH318 a_319 HE320 HS321 a_325 HE326 a_328 HE329 a_330 HE331 a_332 HE333 a_334 HE335 hK323 K_322
          refine nrm ?_
          refine wp_seq ?_
          refine wp_seq ?_
          refine rg ?_
          refine pl_x HE337 HH324 (wt0 rfl) (x_move rfl) rfl rfl fun a_338 HE339 => ?_
          refine pl_x HE339 HH324 (wt0 rfl) (x_move rfl) rfl rfl fun a_340 HE341 => ?_
          refine pl fun K_342 hK343 => ?_
          refine st_call HE341 (wt0 rfl) rfl rfl rfl en_40 rfl rfl (eq_SStore_c _ _ _ _ ((traceProg a0 a1 a2).1) ((traceProg a0 a1 a2).1) _ (HH324.sl (i := 0) rfl) (HH324.sl (i := 9) rfl)) fun e w' hr => ?_
          obtain ⟨rfl, hbr48⟩ := hr
          have HH344 := HH324.on hbr48
          clear hbr48
          refine ⟨_, rfl, fun a_345 HE346 => hK343 _ _ ?_⟩
          refine pl_x HE346 HH344 (wt0 rfl) (x_not rfl) rfl rfl fun a_347 HE348 => ?_
          refine pl_x HE348 HH344 (wt0 rfl) (x_move rfl) rfl rfl fun a_349 HE350 => ?_
          refine pl_x HE350 HH344 (wtT HE350 rfl rfl rfl (not_f (eq_SStore_refl _))) (x_move rfl) rfl rfl fun a_351 HE352 => ?_
          refine pl_x HE352 HH344 (wtT HE352 rfl rfl rfl (not_f (eq_SStore_refl _))) (x_move rfl) rfl rfl fun a_353 HE354 => ?_
          refine pl_x HE354 HH344 (wtT HE354 rfl rfl rfl (not_f (eq_SStore_refl _))) (x_neq rfl rfl) rfl rfl fun a_355 HE356 => ?_
          refine pl_x HE356 HH344 (wt0 rfl) (x_pickF rfl (not_f (eq_SStore_refl _)) rfl) rfl rfl fun a_357 HE358 => ?_
          refine wpList_nil ?_
          clear a_336 HE337 a_338 HE339 HH324 a_340 HE341 a_345 HE346 a_347 HE348 a_349 HE350 a_351 HE352 a_353 HE354 a_355 HE356 hK343 K_342
          refine nrm ?_
          refine cndF HE358 rfl (bne_f rfl) ?_
          refine wp_skip ?_
          refine nrm ?_
          refine wp_seq ?_
          refine rg ?_
          refine pl_x HE358 HH344 (wt0 rfl) (x_assign rfl) rfl rfl fun a_359 HE360 => ?_
          refine wpList_nil ?_
          clear a_357 HE358
          refine nrm ?_
          refine wp_seq ?_
          refine rg ?_
          refine pl_x HE360 HH344 (wt0 rfl) (x_move rfl) rfl rfl fun a_361 HE362 => ?_
          refine pl_x HE362 HH344 (wt0 rfl) (x_move rfl) rfl rfl fun a_363 HE364 => ?_
          refine pl fun K_365 hK366 => ?_
          have HE367 := HE364.castS (t := 116) (m' := List.length (mk_SStore ((traceProg a0 a1 a2).1) 1)) rfl (mkL_len _ _ _ _).symm
          refine st_call HE367 (wt0 rfl) rfl rfl rfl en_44 rfl rfl (held_SStore_e _ _ (mk_SStore ((traceProg a0 a1 a2).1) 1) 1 ((traceProg a0 a1 a2).1) _ (HH344.sl (i := 3) rfl) rfl (by omega) (by omega)) fun e w' hr => ?_
          obtain ⟨rfl, hbr49⟩ := hr
          have HH368 := HH344.on hbr49
          clear hbr49
          refine ⟨_, rfl, fun a_369 HE370 => hK366 _ _ ?_⟩
          refine pl_x HE370 HH368 (wt0 rfl) (x_assign rfl) rfl rfl fun a_371 HE372 => ?_
          refine wpList_nil ?_
          clear a_359 HE360 a_361 HE362 HE364 HH344 a_363 HE367 a_369 HE370 hK366 K_365
          refine nrm ?_
          refine wp_seq ?_
          refine wp_seq ?_
          refine rg ?_
          refine pl_x HE372 HH368 (wt0 rfl) (x_move rfl) rfl rfl fun a_373 HE374 => ?_
          refine pl_x HE374 HH368 (wt0 rfl) (x_lss rfl rfl) rfl rfl fun a_375 HE376 => ?_
          refine wpList_nil ?_
          clear a_371 HE372 a_373 HE374
          refine nrm ?_
          refine cndF HE376 rfl (decide_eq_false hc44) ?_
          refine wp_skip ?_
          refine nrm ?_
          refine wp_seq ?_
          refine wp_seq ?_
          refine rg ?_
          refine pl_x HE376 HH368 (wt0 rfl) (x_move rfl) rfl rfl fun a_377 HE378 => ?_
          refine pl_x HE378 HH368 (wt0 rfl) (x_move rfl) rfl rfl fun a_379 HE380 => ?_
          refine pl_x HE380 HH368 (wt0 rfl) (x_neq rfl rfl) rfl rfl fun a_381 HE382 => ?_
          refine wpList_nil ?_
          clear a_375 HE376 a_377 HE378 a_379 HE380
          refine nrm ?_
          refine cndF HE382 rfl (bne_f rfl) ?_
          refine wp_skip ?_
          refine nrm ?_
          refine wp_seq ?_
          refine rg ?_
          refine pl_x HE382 HH368 (wt0 rfl) (x_assign rfl) rfl rfl fun a_383 HE384 => ?_
          refine wpList_nil ?_
          clear a_381 HE382
          refine nrm ?_
          refine wp_ret ?_
          refine ret1 HE384 rfl (rv_tmp rfl) ?_
          have hF : true = true := by
            first | rfl | (exfalso; omega)
          exact ⟨by rw [hF] <;> rfl, HH368.below⟩

end Go.Proofs.Ytnokeoejlfodkaa
