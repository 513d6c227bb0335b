/- What the proof of FnExactStartMulti needs: contracts of the functions that it reaches, each once. -/
import Derived.Test.YtnokeoejlfodkaaProg
import Derived.Test.YtnokeoejlfodkaaQMem
import Derived.Test.YtnokeoejlfodkaaQOpen
import Derived.Test.YtnokeoejlfodkaaLStartMultia
import Derived.WalkKit
import Derived.WalkSpells
import Derived.Below
import Derived.LoopTactic
import Derived.Outline
import Derived.Deep.QuietTactic
import Derived.BigQuiet
import Derived.Deep.LoopGhost
import Derived.Handy
import Derived.Lib.Hide
import Derived.Shelf.Abstract
import Derived.StillTailTactics
import Derived.OwnWalk
import Derived.Maps.AppendAt
import Derived.RegionTactic
import Derived.Deep.RegionHeld3
import Derived.IntWalk
import Derived.Deep.Upon
import Derived.Laws.OwnMore
import Derived.Maps.AppendAt
import Derived.Lib.SliceRun
import Derived.Lib.AppendZeros
namespace Go.Proofs.Ytnokeoejlfodkaa
open Go.RowKit

theorem en_25 : ∀ args w, (callFunc 25 args).run Try.prog w = .ok (.enter 25 args) w := enters_of Try.func25 (by kernel_rfl) rfl

theorem en_26 : ∀ args w, (callFunc 26 args).run Try.prog w = .ok (.enter 26 args) w := enters_of Try.func26 (by kernel_rfl) rfl

theorem en_52 : ∀ args w, (callFunc 52 args).run Try.prog w = .ok (.enter 52 args) w := enters_of Try.func52 (by kernel_rfl) rfl

theorem en_55 : ∀ args w, (callFunc 55 args).run Try.prog w = .ok (.enter 55 args) w := enters_of Try.func55 (by kernel_rfl) rfl

theorem en_58 : ∀ args w, (callFunc 58 args).run Try.prog w = .ok (.enter 58 args) w := enters_of Try.func58 (by kernel_rfl) rfl

theorem en_59 : ∀ args w, (callFunc 59 args).run Try.prog w = .ok (.enter 59 args) w := enters_of Try.func59 (by kernel_rfl) rfl

theorem en_62 : ∀ args w, (callFunc 62 args).run Try.prog w = .ok (.enter 62 args) w := enters_of Try.func62 (by kernel_rfl) rfl

theorem en_63 : ∀ args w, (callFunc 63 args).run Try.prog w = .ok (.enter 63 args) w := enters_of Try.func63 (by kernel_rfl) rfl

theorem en_64 : ∀ args w, (callFunc 64 args).run Try.prog w = .ok (.enter 64 args) w := enters_of Try.func64 (by kernel_rfl) rfl

theorem en_66 : ∀ args w, (callFunc 66 args).run Try.prog w = .ok (.enter 66 args) w := enters_of Try.func66 (by kernel_rfl) rfl

theorem en_67 : ∀ args w, (callFunc 67 args).run Try.prog w = .ok (.enter 67 args) w := enters_of Try.func67 (by kernel_rfl) rfl

theorem en_68 : ∀ args w, (callFunc 68 args).run Try.prog w = .ok (.enter 68 args) w := enters_of Try.func68 (by kernel_rfl) rfl

theorem en_69 : ∀ args w, (callFunc 69 args).run Try.prog w = .ok (.enter 69 args) w := enters_of Try.func69 (by kernel_rfl) rfl

theorem en_70 : ∀ args w, (callFunc 70 args).run Try.prog w = .ok (.enter 70 args) w := enters_of Try.func70 (by kernel_rfl) rfl

theorem en_71 : ∀ args w, (callFunc 71 args).run Try.prog w = .ok (.enter 71 args) w := enters_of Try.func71 (by kernel_rfl) rfl

theorem en_108 : ∀ args w, (callFunc 108 args).run Try.prog w = .ok (.enter 108 args) w := enters_of Try.func108 (by kernel_rfl) rfl

theorem en_112 : ∀ args w, (callFunc 112 args).run Try.prog w = .ok (.enter 112 args) w := enters_of Try.func112 (by kernel_rfl) rfl

theorem en_133 : ∀ args w, (callFunc 133 args).run Try.prog w = .ok (.enter 133 args) w := enters_of Try.func133 (by kernel_rfl) rfl

theorem en_137 : ∀ args w, (callFunc 137 args).run Try.prog w = .ok (.enter 137 args) w := enters_of Try.func137 (by kernel_rfl) rfl

theorem en_146 : ∀ args w, (callFunc 146 args).run Try.prog w = .ok (.enter 146 args) w := enters_of Try.func146 (by kernel_rfl) rfl

theorem en_147 : ∀ args w, (callFunc 147 args).run Try.prog w = .ok (.enter 147 args) w := enters_of Try.func147 (by kernel_rfl) rfl

theorem en_148 : ∀ args w, (callFunc 148 args).run Try.prog w = .ok (.enter 148 args) w := enters_of Try.func148 (by kernel_rfl) rfl

theorem en_149 : ∀ args w, (callFunc 149 args).run Try.prog w = .ok (.enter 149 args) w := enters_of Try.func149 (by kernel_rfl) rfl

theorem en_150 : ∀ args w, (callFunc 150 args).run Try.prog w = .ok (.enter 150 args) w := enters_of Try.func150 (by kernel_rfl) rfl

theorem en_151 : ∀ args w, (callFunc 151 args).run Try.prog w = .ok (.enter 151 args) w := enters_of Try.func151 (by kernel_rfl) rfl

theorem en_152 : ∀ args w, (callFunc 152 args).run Try.prog w = .ok (.enter 152 args) w := enters_of Try.func152 (by kernel_rfl) rfl

theorem en_153 : ∀ args w, (callFunc 153 args).run Try.prog w = .ok (.enter 153 args) w := enters_of Try.func153 (by kernel_rfl) rfl

theorem en_154 : ∀ args w, (callFunc 154 args).run Try.prog w = .ok (.enter 154 args) w := enters_of Try.func154 (by kernel_rfl) rfl

theorem en_205 : ∀ args w, (callFunc 205 args).run Try.prog w = .ok (.enter 205 args) w := enters_of Try.func205 (by kernel_rfl) rfl

theorem en_206 : ∀ args w, (callFunc 206 args).run Try.prog w = .ok (.enter 206 args) w := enters_of Try.func206 (by kernel_rfl) rfl

theorem en_209 : ∀ args w, (callFunc 209 args).run Try.prog w = .ok (.enter 209 args) w := enters_of Try.func209 (by kernel_rfl) rfl

theorem en_210 : ∀ args w, (callFunc 210 args).run Try.prog w = .ok (.enter 210 args) w := enters_of Try.func210 (by kernel_rfl) rfl

theorem en_221 : ∀ args w, (callFunc 221 args).run Try.prog w = .ok (.enter 221 args) w := enters_of Try.func221 (by kernel_rfl) rfl

theorem en_228 : ∀ args w, (callFunc 228 args).run Try.prog w = .ok (.enter 228 args) w := enters_of Try.func228 (by kernel_rfl) rfl

theorem en_235 : ∀ args w, (callFunc 235 args).run Try.prog w = .ok (.enter 235 args) w := enters_of Try.func235 (by kernel_rfl) rfl

theorem en_236 : ∀ args w, (callFunc 236 args).run Try.prog w = .ok (.enter 236 args) w := enters_of Try.func236 (by kernel_rfl) rfl

theorem en_250 : ∀ args w, (callFunc 250 args).run Try.prog w = .ok (.enter 250 args) w := enters_of Try.func250 (by kernel_rfl) rfl

theorem hmix : Try.prog.follows .mixedOrders = true := by kernel_rfl

theorem held_L_e (A : Option Addr) (c : Nat) (ys : List Int) (k : Int) (z : List Int) (w : World) (h : Sl eInt w (Old w) A c ys) (sz : ys = mk_L z k) (hk : 0 ≤ k) (hk' : k + (ct_L z : Int) ≤ 1000000000000) :
    Calls Try.prog 26 #[.slice A ys.length c, .int .i64 k] w fun e w' => e = .returned (.int .i64 (k + (ct_L z : Int))) ∧ Below w.heap.size w w' := by
  subst sz
  have := held_L_c A c z k w h hk hk'
  rwa [show z.length = (mk_L z k).length from (mkL_len _ _ _ _).symm] at this

theorem cntL_cost {α : Type} {c f : α → Nat} (h : ∀ x, c x ≤ 4 * f x + 4) (xs : List α) : cntL c xs ≤ 4 * costL f xs := by
  unfold cntL costL
  induction xs with
  | nil => simp
  | cons x xs ih =>
    rw [List.map_cons, List.sum_cons, List.map_cons, List.sum_cons, List.length_cons]
    have := h x
    omega

theorem cntL_bound {α : Type} {c : α → Nat} {n : Nat} : ∀ {xs : List α}, (∀ x ∈ xs, c x ≤ n) → cntL c xs ≤ n * xs.length
  | [], _ => by simp [cntL]
  | x :: xs, h => by
    have h1 := cntL_bound (c := c) (n := n) (xs := xs) fun y hy => h y (by simp [hy])
    have h2 := h x (by simp)
    unfold cntL at h1 ⊢
    rw [List.map_cons, List.sum_cons, List.length_cons, Nat.mul_succ]
    omega

theorem ct_L_len (xs : List Int) : ct_L xs = xs.length := by
  have := cntL_const ct_i 1 xs fun _ => rfl
  unfold ct_L; omega

theorem ct_cost_SMultiRule (xs : List tMultiRule) : ct_SMultiRule xs ≤ 4 * cost_SMultiRule xs := cntL_cost (fun x => by
  have h1 := ct_L_len x.2.1
  have h2 := ct_L_len x.2.2.1
  have h3 := ct_L_len x.2.2.2.1
  unfold ct_MultiRule cost_MultiRule cost_L; omega) xs

theorem cv_cost_Multi (x : tMulti) : cv_Multi x ≤ 4 * cost_Multi x := ct_cost_SMultiRule x.2.2.2

def mkR_STape (xs : List tTape) (k : Int) : Int × List tTape := (k + (ct_STape xs : Int), mk_STape xs k)

set_option maxRecDepth 100000 in
set_option maxHeartbeats 4000000 in
theorem mark_STape_h (M : Nat → Prop) (A0 : Option Addr) (c0 : Nat) (a0 : (List tTape)) (S0 : Nat → Prop) (a1 : Int) (w : World) (HM : Held M w [rSo eTape S0 A0 c0 a0] w) (s0 : 0 ≤ a1) (s1 : a1 + (ct_STape a0 : Int) ≤ 1000000000000) :
    Calls Try.prog 153 #[.slice A0 a0.length c0, .int .i64 a1] w fun e w' => ∃ (S0' : Nat → Prop), e = .returned (.int .i64 (mkR_STape a0 a1).1) ∧ Held M w [rSo eTape S0' A0 c0 (mkR_STape a0 a1).2] w' := by
  have HH1 := HM
  have l0 := (HH1.sl (i := 0) rfl).len
  refine enter (n := 27) Try.func153 rfl rfl rfl fun a_2 HE3 => ?_
  refine wp_seq ?_
  refine rg ?_
  refine pl_x HE3 HH1 (wt0 rfl) (x_assign rfl) rfl rfl fun a_4 HE5 => ?_
  refine wpList_nil ?_
  clear a_2 HE3
  refine nrm ?_
  refine wp_seq ?_
  refine wp_seq ?_
  refine rg ?_
  refine pl_x HE5 HH1 (wt0 rfl) (x_assign rfl) rfl rfl fun a_6 HE7 => ?_
  refine wpList_nil ?_
  clear a_4 HE5
  refine nrm ?_
  refine wp_block ?_
  refine lp (fun m a w' => ∃ (i : Nat) (S_0 : Nat → Prop), m = a0.length - i ∧ Env 27 [(1, .int .i64 (a1 + (cntL ct_Tape (a0.take i) : Int))), (5, .int .i64 (i : Int)), (0, .slice A0 (a0.length) c0)] a ∧ Held M w [rSo eTape S_0 A0 c0 (mkTo mk_Tape ct_Tape a0 a1 i)] w' ∧ (i ≤ a0.length)) (a0.length - (0)) ?_ ?_
  · have E21 : mkTo mk_Tape ct_Tape a0 a1 0 = a0 := by
      exact mkTo_zero _ _ _ _
    exact ⟨0, S0, rfl, HE7.sub ⟨(lkI rfl (by simp [cntL])), (lkI rfl (by first | rfl | omega | (simp []; done))), rfl, trivial⟩, ((HH1.sel [0] (by decide) rfl).to (by first | rfl | (rw [E21]; done) | (rw [E21]; rfl) | (simp only [E21]; done) | (simp only [E21]; rfl))), (by first | omega | assumption | (simp; done) | simp_all)⟩
  · rintro m a_8 w' ⟨i, S_0, rfl, HE9, HH10, p22_0⟩
    have hl0 : (mkTo mk_Tape ct_Tape a0 a1 i).length = a0.length := mkTo_len _ _ _ _ _
    refine wp_seq ?_
    refine wp_seq ?_
    refine rg ?_
    refine pl_x HE9 HH10 (wt0 rfl) (x_move rfl) rfl rfl fun a_11 HE12 => ?_
    refine pl_x HE12 HH10 (wt0 rfl) (x_move rfl) rfl rfl fun a_13 HE14 => ?_
    refine pl_x HE14 HH10 (wt0 rfl) (x_len Try.underlying85 rfl) rfl rfl fun a_15 HE16 => ?_
    refine pl_x HE16 HH10 (wt0 rfl) (x_lss rfl rfl) rfl rfl fun a_17 HE18 => ?_
    refine wpList_nil ?_
    clear a_6 HE7 HH1 a_8 HE9 a_11 HE12 a_13 HE14 a_15 HE16
    refine nrm ?_
    refine cnd_d HE18 rfl (fun hc23 => ?_) (fun hc23 => ?_)
    · refine wp_skip ?_
      refine nrm ?_
      refine wp_seq ?_
      refine wp_block ?_
      refine wp_seq ?_
      refine rg ?_
      refine pl_x HE18 HH10 (wt0 rfl) (x_move rfl) rfl rfl fun a_19 HE20 => ?_
      refine pl_x HE20 HH10 (wt0 rfl) (x_move rfl) rfl rfl fun a_21 HE22 => ?_
      have ke24 : i < List.length (mkTo mk_Tape ct_Tape a0 a1 i) := by first | omega | (rw [mkTo_len]; omega)
      have ne24 : i < a0.length := by omega
      obtain ⟨be24, fe24, ese24, Te24, rfl, Re24, Ze24, HH23⟩ := HH10.open ke24
      obtain ⟨e24, xe24⟩ : ∃ x, x = (mkTo mk_Tape ct_Tape a0 a1 i)[i] := ⟨_, rfl⟩
      rw [← xe24] at Re24
      rw [← xe24] at HH23
      obtain ⟨Ae24_0, ce24_0, Ae24_1, ce24_1, rfl, ge24_0, ge24_1⟩ := shape_Tape Re24
      clear Re24
      have hxe24 : e24 = a0[i] := by have hq := mkTo_get mk_Tape ct_Tape a0 a1 i (by omega); rw [List.getElem?_eq_getElem (by rw [mkTo_len]; omega)] at hq; rw [xe24]; exact Option.some.inj hq
      have hc1 := cntL_take ct_Tape a0 i (by omega)
      have hc2 : cntL ct_Tape (a0.take (i + 1)) ≤ ct_STape a0 := cntL_le ct_Tape a0 (i + 1)
      rw [← hxe24] at hc1
      have hc3 : ct_Tape e24 = ct_L e24.1 + ct_L e24.2 := rfl
      have HH24 := HH23.sel [1, 0] (by decide) rfl
      obtain ⟨S25, S26, HH25⟩ := HH24.unP rfl
      have HH26 := HH25.sel [1, 0, 2] (by decide) rfl
      refine pl_x HE22 HH26 (wt0 rfl) (x_indexAddr ts_85 rfl rfl rfl rfl ne24) rfl rfl fun a_27 HE28 => ?_
      refine pl_x HE28 HH26 (wt0 rfl) (x_fieldAddr fa_176_0 rfl) rfl rfl fun a_29 HE30 => ?_
      refine pl_x HE30 HH26 (wt0 rfl) (x_load1 tv_31 rfl (c_foc (E := eTape) (off := fe24) (k := i) (j := 0) 2 rfl rfl)) rfl rfl fun a_31 HE32 => ?_
      refine pl_x HE32 HH26 (wt0 rfl) (x_move rfl) rfl rfl fun a_33 HE34 => ?_
      refine pl fun K_35 hK36 => ?_
      refine st_call HE34 (wt0 rfl) rfl rfl rfl en_25 rfl rfl (mark_L_c _ _ e24.1 (a1 + (cntL ct_Tape (a0.take i) : Int)) _ _ (so_of_o (HH26.get (i := 1) rfl)) (HH26.lt (i := 1) rfl) (by omega) (by omega)) fun e w' hr => ?_
      obtain ⟨rfl, hsr27, hcr27⟩ := hr
      have HH37 := HH26.mut (i := 1) rfl hcr27 (rSo eInt S25 Ae24_0 ce24_0 (mk_L e24.1 (a1 + (cntL ct_Tape (a0.take i) : Int)))) (oSl hsr27) (fun b hb => .inl hb)
      clear hsr27 hcr27
      refine ⟨_, rfl, fun a_38 HE39 => hK36 _ _ ?_⟩
      refine pl_x HE39 HH37 (wt0 rfl) (x_assign rfl) rfl rfl fun a_40 HE41 => ?_
      refine wpList_nil ?_
      clear a_17 HE18 a_19 HE20 HH10 HH23 HH24 HH25 a_21 HE22 a_27 HE28 a_29 HE30 a_31 HE32 HH26 a_33 HE34 a_38 HE39 hK36 K_35
      refine nrm ?_
      refine rg ?_
      refine pl_x HE41 HH37 (wt0 rfl) (x_move rfl) rfl rfl fun a_42 HE43 => ?_
      refine pl_x HE43 HH37 (wt0 rfl) (x_move rfl) rfl rfl fun a_44 HE45 => ?_
      refine pl_x HE45 HH37 (wt0 rfl) (x_indexAddr ts_85 rfl rfl rfl rfl ne24) rfl rfl fun a_46 HE47 => ?_
      refine pl_x HE47 HH37 (wt0 rfl) (x_fieldAddr fa_176_1 rfl) rfl rfl fun a_48 HE49 => ?_
      refine pl_x HE49 HH37 (wt0 rfl) (x_load1 tv_31 rfl (c_foc (E := eTape) (off := fe24) (k := i) (j := 1) 2 rfl rfl)) rfl rfl fun a_50 HE51 => ?_
      refine pl_x HE51 HH37 (wt0 rfl) (x_move rfl) rfl rfl fun a_52 HE53 => ?_
      refine pl fun K_54 hK55 => ?_
      refine st_call HE53 (wt0 rfl) rfl rfl rfl en_25 rfl rfl (mark_L_c _ _ e24.2 ((a1 + (cntL ct_Tape (a0.take i) : Int)) + (ct_L e24.1 : Int)) _ _ (so_of_o (HH37.get (i := 0) rfl)) (HH37.lt (i := 0) rfl) (by omega) (by omega)) fun e w' hr => ?_
      obtain ⟨rfl, hsr28, hcr28⟩ := hr
      have HH56 := HH37.mut (i := 0) rfl hcr28 (rSo eInt S26 Ae24_1 ce24_1 (mk_L e24.2 ((a1 + (cntL ct_Tape (a0.take i) : Int)) + (ct_L e24.1 : Int)))) (oSl hsr28) (fun b hb => .inl hb)
      clear hsr28 hcr28
      refine ⟨_, rfl, fun a_57 HE58 => hK55 _ _ ?_⟩
      refine pl_x HE58 HH56 (wt0 rfl) (x_assign rfl) rfl rfl fun a_59 HE60 => ?_
      refine wpList_nil ?_
      clear a_40 HE41 a_42 HE43 a_44 HE45 a_46 HE47 a_48 HE49 a_50 HE51 HH37 a_52 HE53 a_57 HE58 hK55 K_54
      refine blk_n ?_
      refine nrm ?_
      refine rg ?_
      refine pl_x HE60 HH56 (wt0 rfl) (x_move rfl) rfl rfl fun a_61 HE62 => ?_
      refine pl_x HE62 HH56 (wt0 rfl) (x_add rfl rfl (by exact ⟨by omega, by omega⟩)) rfl rfl fun a_63 HE64 => ?_
      refine pl_x HE64 HH56 (wt0 rfl) (x_assign rfl) rfl rfl fun a_65 HE66 => ?_
      refine wpList_nil ?_
      clear a_59 HE60 a_61 HE62 a_63 HE64
      have HH67 := HH56.sel [1, 0, 2] (by decide) rfl
      have HH68 := HH67.relen (n := e24.1.length) (by first | exact mkL_len _ _ _ _ | (simp; done) | (simp; omega))
      have HH69 := HH68.sel [1, 0, 2] (by decide) rfl
      have HH70 := HH69.relen (n := e24.2.length) (by first | exact mkL_len _ _ _ _ | (simp; done) | (simp; omega))
      have HH71 := HH70.sel [1, 0, 2] (by decide) rfl
      have HH72 := HH71.sel [1, 0, 2] (by decide) rfl
      have HH73 := HH72.sel [1, 0, 2] (by decide) rfl
      have HH74 := HH73.pair
      obtain ⟨S29, HH75⟩ : ∃ S, Held M w (rO eTape S [.slice Ae24_0 (e24.1.length) ce24_0, .slice Ae24_1 (e24.2.length) ce24_1] ((mk_L e24.1 (a1 + (cntL ct_Tape (a0.take i) : Int))), (mk_L e24.2 ((a1 + (cntL ct_Tape (a0.take i) : Int)) + (ct_L e24.1 : Int)))) :: _) _ := ⟨_, HH74⟩
      have HH76 := HH75.sel [1, 0] (by decide) rfl
      have HH77 := HH76.shut
      obtain ⟨S30, HH78⟩ : ∃ S, Held M w (rSo eTape S (some ⟨be24, fe24, none⟩) c0 ((mkTo mk_Tape ct_Tape a0 a1 i).set i ((mk_L e24.1 (a1 + (cntL ct_Tape (a0.take i) : Int))), (mk_L e24.2 ((a1 + (cntL ct_Tape (a0.take i) : Int)) + (ct_L e24.1 : Int))))) :: _) _ := ⟨_, HH77⟩
      have E31 : mkTo mk_Tape ct_Tape a0 a1 (i + 1) = ((mkTo mk_Tape ct_Tape a0 a1 i).set i ((mk_L e24.1 (a1 + (cntL ct_Tape (a0.take i) : Int))), (mk_L e24.2 ((a1 + (cntL ct_Tape (a0.take i) : Int)) + (ct_L e24.1 : Int))))) := by
        rw [← mkTo_step mk_Tape ct_Tape a0 a1 i (by omega), ← hxe24]; rfl
      exact nrm ⟨a0.length - (i + 1), (by omega), i + 1, S30, rfl, HE66.sub ⟨(lkI rfl (by omega)), (lkI rfl (by first | rfl | omega | (simp [p22_0, hc23, xe24]; done))), rfl, trivial⟩, ((HH78.sel [0] (by decide) rfl).to (by first | rfl | (rw [E31]; done) | (rw [E31]; rfl) | (simp only [E31]; done) | (simp only [E31]; rfl))), (by first | omega | assumption | (simp; done) | simp_all)⟩
    · refine wp_exit ?_
      refine (thn_exit (thn_exit (blk_hit ?_)))
      refine nrm ?_
      refine wp_seq ?_
      refine rg ?_
      refine pl_x HE18 HH10 (wt0 rfl) (x_move rfl) rfl rfl fun a_79 HE80 => ?_
      refine pl_x HE80 HH10 (wt0 rfl) (x_assign rfl) rfl rfl fun a_81 HE82 => ?_
      refine wpList_nil ?_
      clear a_17 HE18 a_79 HE80
      refine nrm ?_
      refine wp_ret ?_
      refine ret1 HE82 rfl (rv_tmp rfl) ?_
      have hF : (mkR_STape a0 a1) = ((a1 + (cntL ct_Tape (a0.take i) : Int)), mkTo mk_Tape ct_Tape a0 a1 i) := by
        unfold mkR_STape ct_STape mk_STape; rw [show i = a0.length from by omega, mkTo_end, List.take_length]
      exact ⟨_, by rw [hF] <;> rfl, by rw [hF]; exact HH10.sel [0] (by decide) rfl⟩

set_option maxRecDepth 100000 in
set_option maxHeartbeats 4000000 in
theorem held_STape_e (A0 : Option Addr) (c0 : Nat) (a0 : (List tTape)) (a1 : Int) (z : List tTape) (w : World) (h0 : Sl eTape w (Old w) A0 c0 a0) (sz : a0 = mk_STape z a1) (s0 : 0 ≤ a1) (s1 : a1 + (ct_STape z : Int) ≤ 1000000000000) :
    Calls Try.prog 154 #[.slice A0 a0.length c0, .int .i64 a1] w fun e w' => e = .returned (.int .i64 (a1 + (ct_STape z : Int))) ∧ Below w.heap.size w w' := by
  have l0 := h0.len
  have hz0 : a0.length = z.length := by rw [sz]; exact mkL_len _ _ _ _
  have HH1 := Held.start Nob w
  refine enter (n := 31) Try.func154 rfl rfl rfl fun a_2 HE3 => ?_
  refine wp_seq ?_
  refine rg ?_
  refine pl_x HE3 HH1 (wt0 rfl) (x_assign rfl) rfl rfl fun a_4 HE5 => ?_
  refine wpList_nil ?_
  clear a_2 HE3
  refine nrm ?_
  refine wp_seq ?_
  refine wp_seq ?_
  refine rg ?_
  refine pl_x HE5 HH1 (wt0 rfl) (x_assign rfl) rfl rfl fun a_6 HE7 => ?_
  refine wpList_nil ?_
  clear a_4 HE5
  refine nrm ?_
  refine wp_block ?_
  refine lp (fun m a w' => ∃ (i : Nat), m = a0.length - i ∧ Env 31 [(1, .int .i64 (a1 + (cntL ct_Tape (z.take i) : Int))), (5, .int .i64 (i : Int)), (0, .slice A0 (a0.length) c0)] a ∧ Held Nob w [] w' ∧ (i ≤ a0.length)) (a0.length - (0)) ?_ ?_
  · exact ⟨0, rfl, HE7.sub ⟨(lkI rfl (by simp [cntL])), (lkI rfl (by first | rfl | omega | (simp []; done))), rfl, trivial⟩, (HH1.sel [] (by decide) rfl), (by first | omega | assumption | (simp; done) | simp_all)⟩
  · rintro m a_8 w' ⟨i, rfl, HE9, HH10, p21_0⟩
    refine wp_seq ?_
    refine wp_seq ?_
    refine rg ?_
    refine pl_x HE9 HH10 (wt0 rfl) (x_move rfl) rfl rfl fun a_11 HE12 => ?_
    refine pl_x HE12 HH10 (wt0 rfl) (x_move rfl) rfl rfl fun a_13 HE14 => ?_
    refine pl_x HE14 HH10 (wt0 rfl) (x_len Try.underlying85 rfl) rfl rfl fun a_15 HE16 => ?_
    refine pl_x HE16 HH10 (wt0 rfl) (x_lss rfl rfl) rfl rfl fun a_17 HE18 => ?_
    refine wpList_nil ?_
    clear a_6 HE7 HH1 a_8 HE9 a_11 HE12 a_13 HE14 a_15 HE16
    refine nrm ?_
    refine cnd_d HE18 rfl (fun hc22 => ?_) (fun hc22 => ?_)
    · refine wp_skip ?_
      refine nrm ?_
      refine wp_seq ?_
      refine wp_block ?_
      refine wp_seq ?_
      refine rg ?_
      refine pl_x HE18 HH10 (wt0 rfl) (x_move rfl) rfl rfl fun a_19 HE20 => ?_
      refine pl_x HE20 HH10 (wt0 rfl) (x_move rfl) rfl rfl fun a_21 HE22 => ?_
      have ke23 : i < a0.length := by omega
      obtain ⟨be23, fe23, ese23, Ae23, Re23, De23⟩ := el_old h0 ke23
      obtain ⟨e23, xe23⟩ : ∃ x, x = a0[i] := ⟨_, rfl⟩
      rw [← xe23] at Re23
      have Qe23 := Re23
      obtain ⟨Ae23_0, ce23_0, Ae23_1, ce23_1, rfl, ge23_0, ge23_1⟩ := shape_Tape Re23
      have le23_0 := ge23_0.len
      have le23_1 := ge23_1.len
      obtain ⟨ze23, hze23⟩ : ∃ y, y = z[i]'(by omega) := ⟨_, rfl⟩
      have hxe23 : e23 = mk_Tape ze23 (a1 + (cntL ct_Tape (z.take i) : Int)) := by rw [xe23, hze23]; have hq := mkL_get mk_Tape ct_Tape z a1 i (by omega); have hr : a0[i]? = some _ := (by rw [sz]; exact hq); rw [List.getElem?_eq_getElem (by omega)] at hr; exact Option.some.inj hr
      have hc1 := cntL_take ct_Tape z i (by omega)
      have hc2 : cntL ct_Tape (z.take (i + 1)) ≤ ct_STape z := cntL_le ct_Tape z (i + 1)
      rw [← hze23] at hc1
      have hc3 : ct_Tape ze23 = ct_L ze23.1 + ct_L ze23.2 := rfl
      refine pl_x HE22 HH10 (wt0 rfl) (x_indexAddr ts_85 rfl rfl Ae23 rfl ke23) rfl rfl fun a_23 HE24 => ?_
      refine pl_x HE24 HH10 (wt0 rfl) (x_fieldAddr fa_176_0 rfl) rfl rfl fun a_25 HE26 => ?_
      refine pl_x HE26 HH10 (wt0 rfl) (x_load1 tv_31 rfl (c_old (De23 0 _ rfl))) rfl rfl fun a_27 HE28 => ?_
      refine pl_x HE28 HH10 (wt0 rfl) (x_move rfl) rfl rfl fun a_29 HE30 => ?_
      refine pl fun K_31 hK32 => ?_
      refine st_call HE30 (wt0 rfl) rfl rfl rfl en_26 rfl rfl (held_L_e _ _ e23.1 (a1 + (cntL ct_Tape (z.take i) : Int)) ze23.1 _ (HH10.old ge23_0) (by rw [hxe23]; rfl) (by omega) (by omega)) fun e w' hr => ?_
      obtain ⟨rfl, hbr24⟩ := hr
      have HH33 := HH10.on hbr24
      clear hbr24
      refine ⟨_, rfl, fun a_34 HE35 => hK32 _ _ ?_⟩
      refine pl_x HE35 HH33 (wt0 rfl) (x_assign rfl) rfl rfl fun a_36 HE37 => ?_
      refine wpList_nil ?_
      clear a_17 HE18 a_19 HE20 a_21 HE22 a_23 HE24 a_25 HE26 a_27 HE28 HH10 a_29 HE30 a_34 HE35 hK32 K_31
      refine nrm ?_
      refine wp_seq ?_
      refine wp_seq ?_
      refine rg ?_
      refine pl_x HE37 HH33 (wt0 rfl) (x_move rfl) rfl rfl fun a_38 HE39 => ?_
      refine pl_x HE39 HH33 (wt0 rfl) (x_lss rfl rfl) rfl rfl fun a_40 HE41 => ?_
      refine wpList_nil ?_
      clear a_36 HE37 a_38 HE39
      refine nrm ?_
      refine cnd_d HE41 rfl (fun hc25 => ?_) (fun hc25 => ?_)
      · refine wp_seq ?_
        refine rg ?_
        refine pl_x HE41 HH33 (wt0 rfl) (x_assign rfl) rfl rfl fun a_42 HE43 => ?_
        refine wpList_nil ?_
        clear a_40 HE41
        refine nrm ?_
        refine wp_ret ?_
        refine (thn_ret (blk_ret (thn_ret (thn_ret (blk_ret (thn_ret ?_))))))
        refine ret1 HE43 rfl (rv_tmp rfl) ?_
        have hF : (a1 + (ct_STape z : Int)) = -1 := by
          first | (exfalso; omega) | (rw [show i = z.length from by omega, List.take_length]; rfl)
        exact ⟨by rw [hF] <;> rfl, HH33.below⟩
      · refine wp_skip ?_
        refine nrm ?_
        refine wp_seq ?_
        refine rg ?_
        refine pl_x HE41 HH33 (wt0 rfl) (x_move rfl) rfl rfl fun a_44 HE45 => ?_
        refine pl_x HE45 HH33 (wt0 rfl) (x_move rfl) rfl rfl fun a_46 HE47 => ?_
        refine pl_x HE47 HH33 (wt0 rfl) (x_indexAddr ts_85 rfl rfl Ae23 rfl ke23) rfl rfl fun a_48 HE49 => ?_
        refine pl_x HE49 HH33 (wt0 rfl) (x_fieldAddr fa_176_1 rfl) rfl rfl fun a_50 HE51 => ?_
        refine pl_x HE51 HH33 (wt0 rfl) (x_load1 tv_31 rfl (c_old (De23 1 _ rfl))) rfl rfl fun a_52 HE53 => ?_
        refine pl_x HE53 HH33 (wt0 rfl) (x_move rfl) rfl rfl fun a_54 HE55 => ?_
        refine pl fun K_56 hK57 => ?_
        refine st_call HE55 (wt0 rfl) rfl rfl rfl en_26 rfl rfl (held_L_e _ _ e23.2 ((a1 + (cntL ct_Tape (z.take i) : Int)) + (ct_L ze23.1 : Int)) ze23.2 _ (HH33.old ge23_1) (by rw [hxe23]; rfl) (by omega) (by omega)) fun e w' hr => ?_
        obtain ⟨rfl, hbr26⟩ := hr
        have HH58 := HH33.on hbr26
        clear hbr26
        refine ⟨_, rfl, fun a_59 HE60 => hK57 _ _ ?_⟩
        refine pl_x HE60 HH58 (wt0 rfl) (x_assign rfl) rfl rfl fun a_61 HE62 => ?_
        refine wpList_nil ?_
        clear a_40 HE41 a_44 HE45 a_46 HE47 a_48 HE49 a_50 HE51 a_52 HE53 HH33 a_54 HE55 a_59 HE60 hK57 K_56
        refine nrm ?_
        refine wp_seq ?_
        refine rg ?_
        refine pl_x HE62 HH58 (wt0 rfl) (x_move rfl) rfl rfl fun a_63 HE64 => ?_
        refine pl_x HE64 HH58 (wt0 rfl) (x_lss rfl rfl) rfl rfl fun a_65 HE66 => ?_
        refine wpList_nil ?_
        clear a_61 HE62 a_63 HE64
        refine nrm ?_
        refine cnd_d HE66 rfl (fun hc27 => ?_) (fun hc27 => ?_)
        · refine wp_seq ?_
          refine rg ?_
          refine pl_x HE66 HH58 (wt0 rfl) (x_assign rfl) rfl rfl fun a_67 HE68 => ?_
          refine wpList_nil ?_
          clear a_65 HE66
          refine nrm ?_
          refine wp_ret ?_
          refine (blk_ret (thn_ret (thn_ret (blk_ret (thn_ret ?_)))))
          refine ret1 HE68 rfl (rv_tmp rfl) ?_
          have hF : (a1 + (ct_STape z : Int)) = -1 := by
            first | (exfalso; omega) | (rw [show i = z.length from by omega, List.take_length]; rfl)
          exact ⟨by rw [hF] <;> rfl, HH58.below⟩
        · refine wp_skip ?_
          refine blk_n ?_
          refine nrm ?_
          refine rg ?_
          refine pl_x HE66 HH58 (wt0 rfl) (x_move rfl) rfl rfl fun a_69 HE70 => ?_
          refine pl_x HE70 HH58 (wt0 rfl) (x_add rfl rfl (by exact ⟨by omega, by omega⟩)) rfl rfl fun a_71 HE72 => ?_
          refine pl_x HE72 HH58 (wt0 rfl) (x_assign rfl) rfl rfl fun a_73 HE74 => ?_
          refine wpList_nil ?_
          clear a_65 HE66 a_69 HE70 a_71 HE72
          exact nrm ⟨a0.length - (i + 1), (by omega), i + 1, rfl, HE74.sub ⟨(lkI rfl (by omega)), (lkI rfl (by first | rfl | omega | (simp [p21_0, hc22, xe23, hc25, hc27]; done))), rfl, trivial⟩, (HH58.sel [] (by decide) rfl), (by first | omega | assumption | (simp; done) | simp_all)⟩
    · refine wp_exit ?_
      refine (thn_exit (thn_exit (blk_hit ?_)))
      refine nrm ?_
      refine wp_seq ?_
      refine rg ?_
      refine pl_x HE18 HH10 (wt0 rfl) (x_move rfl) rfl rfl fun a_75 HE76 => ?_
      refine pl_x HE76 HH10 (wt0 rfl) (x_assign rfl) rfl rfl fun a_77 HE78 => ?_
      refine wpList_nil ?_
      clear a_17 HE18 a_75 HE76
      refine nrm ?_
      refine wp_ret ?_
      refine ret1 HE78 rfl (rv_tmp rfl) ?_
      have hF : (a1 + (ct_STape z : Int)) = (a1 + (cntL ct_Tape (z.take i) : Int)) := by
        first | (exfalso; omega) | (rw [show i = z.length from by omega, List.take_length]; rfl)
      exact ⟨by rw [hF] <;> rfl, HH10.below⟩

def mkR_SMultiRule (xs : List tMultiRule) (k : Int) : Int × List tMultiRule := (k + (ct_SMultiRule xs : Int), mk_SMultiRule xs k)

set_option maxRecDepth 100000 in
set_option maxHeartbeats 4000000 in
theorem mark_SMultiRule_h (M : Nat → Prop) (A0 : Option Addr) (c0 : Nat) (a0 : (List tMultiRule)) (S0 : Nat → Prop) (a1 : Int) (w : World) (HM : Held M w [rSo eMultiRule S0 A0 c0 a0] w) (s0 : 0 ≤ a1) (s1 : a1 + (ct_SMultiRule a0 : Int) ≤ 1000000000000) :
    Calls Try.prog 146 #[.slice A0 a0.length c0, .int .i64 a1] w fun e w' => ∃ (S0' : Nat → Prop), e = .returned (.int .i64 (mkR_SMultiRule a0 a1).1) ∧ Held M w [rSo eMultiRule S0' A0 c0 (mkR_SMultiRule a0 a1).2] w' := by
  have HH1 := HM
  have l0 := (HH1.sl (i := 0) rfl).len
  refine enter (n := 48) Try.func146 rfl rfl rfl fun a_2 HE3 => ?_
  refine wp_seq ?_
  refine rg ?_
  refine pl_x HE3 HH1 (wt0 rfl) (x_assign rfl) rfl rfl fun a_4 HE5 => ?_
  refine wpList_nil ?_
  clear a_2 HE3
  refine nrm ?_
  refine wp_seq ?_
  refine wp_seq ?_
  refine rg ?_
  refine pl_x HE5 HH1 (wt0 rfl) (x_assign rfl) rfl rfl fun a_6 HE7 => ?_
  refine wpList_nil ?_
  clear a_4 HE5
  refine nrm ?_
  refine wp_block ?_
  refine lp (fun m a w' => ∃ (i : Nat) (S_0 : Nat → Prop), m = a0.length - i ∧ Env 48 [(1, .int .i64 (a1 + (cntL ct_MultiRule (a0.take i) : Int))), (5, .int .i64 (i : Int)), (0, .slice A0 (a0.length) c0)] a ∧ Held M w [rSo eMultiRule S_0 A0 c0 (mkTo mk_MultiRule ct_MultiRule a0 a1 i)] w' ∧ (i ≤ a0.length)) (a0.length - (0)) ?_ ?_
  · have E21 : mkTo mk_MultiRule ct_MultiRule a0 a1 0 = a0 := by
      exact mkTo_zero _ _ _ _
    exact ⟨0, S0, rfl, HE7.sub ⟨(lkI rfl (by simp [cntL])), (lkI rfl (by first | rfl | omega | (simp []; done))), rfl, trivial⟩, ((HH1.sel [0] (by decide) rfl).to (by first | rfl | (rw [E21]; done) | (rw [E21]; rfl) | (simp only [E21]; done) | (simp only [E21]; rfl))), (by first | omega | assumption | (simp; done) | simp_all)⟩
  · rintro m a_8 w' ⟨i, S_0, rfl, HE9, HH10, p22_0⟩
    have hl0 : (mkTo mk_MultiRule ct_MultiRule a0 a1 i).length = a0.length := mkTo_len _ _ _ _ _
    refine wp_seq ?_
    refine wp_seq ?_
    refine rg ?_
    refine pl_x HE9 HH10 (wt0 rfl) (x_move rfl) rfl rfl fun a_11 HE12 => ?_
    refine pl_x HE12 HH10 (wt0 rfl) (x_move rfl) rfl rfl fun a_13 HE14 => ?_
    refine pl_x HE14 HH10 (wt0 rfl) (x_len Try.underlying81 rfl) rfl rfl fun a_15 HE16 => ?_
    refine pl_x HE16 HH10 (wt0 rfl) (x_lss rfl rfl) rfl rfl fun a_17 HE18 => ?_
    refine wpList_nil ?_
    clear a_6 HE7 HH1 a_8 HE9 a_11 HE12 a_13 HE14 a_15 HE16
    refine nrm ?_
    refine cnd_d HE18 rfl (fun hc23 => ?_) (fun hc23 => ?_)
    · refine wp_skip ?_
      refine nrm ?_
      refine wp_seq ?_
      refine wp_block ?_
      refine wp_seq ?_
      refine rg ?_
      refine pl_x HE18 HH10 (wt0 rfl) (x_move rfl) rfl rfl fun a_19 HE20 => ?_
      refine pl_x HE20 HH10 (wt0 rfl) (x_move rfl) rfl rfl fun a_21 HE22 => ?_
      refine pl_x HE22 HH10 (wt0 rfl) (x_move rfl) rfl rfl fun a_23 HE24 => ?_
      have ke24 : i < List.length (mkTo mk_MultiRule ct_MultiRule a0 a1 i) := by first | omega | (rw [mkTo_len]; omega)
      have ne24 : i < a0.length := by omega
      obtain ⟨be24, fe24, ese24, Te24, rfl, Re24, Ze24, HH25⟩ := HH10.open ke24
      obtain ⟨e24, xe24⟩ : ∃ x, x = (mkTo mk_MultiRule ct_MultiRule a0 a1 i)[i] := ⟨_, rfl⟩
      rw [← xe24] at Re24
      rw [← xe24] at HH25
      obtain ⟨Ae24_1, ce24_1, Ae24_2, ce24_2, Ae24_3, ce24_3, rfl, ge24_0, ge24_1, ge24_2, ge24_3, ge24_4⟩ := shape_MultiRule Re24
      clear Re24
      have je24_0 := ge24_0; unfold I64 at je24_0
      have je24_4 := ge24_4; unfold I64 at je24_4
      have hxe24 : e24 = a0[i] := by have hq := mkTo_get mk_MultiRule ct_MultiRule a0 a1 i (by omega); rw [List.getElem?_eq_getElem (by rw [mkTo_len]; omega)] at hq; rw [xe24]; exact Option.some.inj hq
      have hc1 := cntL_take ct_MultiRule a0 i (by omega)
      have hc2 : cntL ct_MultiRule (a0.take (i + 1)) ≤ ct_SMultiRule a0 := cntL_le ct_MultiRule a0 (i + 1)
      rw [← hxe24] at hc1
      have hc3 : ct_MultiRule e24 = 1 + ct_L e24.2.1 + ct_L e24.2.2.1 + ct_L e24.2.2.2.1 + 1 := rfl
      have HH26 := HH25.sel [1, 0] (by decide) rfl
      have HH27 := HH26.unF rfl
      obtain ⟨S25, S26, HH28⟩ := HH27.unP rfl
      have HH29 := HH28.sel [1, 0, 2] (by decide) rfl
      obtain ⟨S27, S28, HH30⟩ := HH29.unP rfl
      have HH31 := HH30.sel [1, 0, 2, 3] (by decide) rfl
      obtain ⟨S29, S30, HH32⟩ := HH31.unP rfl
      have HH33 := HH32.sel [1, 0, 2, 3, 4] (by decide) rfl
      have HH34 := HH33.sel [1, 2, 3, 4] (by decide) rfl
      refine pl_x HE24 HH34 (wt0 rfl) (x_indexAddr ts_81 rfl rfl rfl rfl ne24) rfl rfl fun a_35 HE36 => ?_
      refine pl_x HE36 HH34 (wt0 rfl) (x_fieldAddr fa_195_0 rfl) rfl rfl fun a_37 HE38 => ?_
      refine pl fun K_39 hK40 => ?_
      refine st_storeF (j := 0) 3 HE38 HH34 tv_2 rfl rfl rfl rfl rfl rfl (wt0 rfl) fun w' HH41 => hK40 _ _ ?_
      refine wpList_nil ?_
      clear a_17 HE18 a_19 HE20 a_21 HE22 HH10 HH25 HH26 HH27 HH28 HH29 HH30 HH31 HH32 HH33 a_23 HE24 a_35 HE36 HH34 hK40 K_39
      refine nrm ?_
      refine wp_seq ?_
      refine rg ?_
      refine pl_x HE38 HH41 (wt0 rfl) (x_move rfl) rfl rfl fun a_42 HE43 => ?_
      refine pl_x HE43 HH41 (wt0 rfl) (x_add rfl rfl (by exact ⟨by omega, by omega⟩)) rfl rfl fun a_44 HE45 => ?_
      refine pl_x HE45 HH41 (wt0 rfl) (x_assign rfl) rfl rfl fun a_46 HE47 => ?_
      refine wpList_nil ?_
      clear a_37 HE38 a_42 HE43 a_44 HE45
      refine nrm ?_
      refine wp_seq ?_
      refine rg ?_
      refine pl_x HE47 HH41 (wt0 rfl) (x_move rfl) rfl rfl fun a_48 HE49 => ?_
      refine pl_x HE49 HH41 (wt0 rfl) (x_move rfl) rfl rfl fun a_50 HE51 => ?_
      refine pl_x HE51 HH41 (wt0 rfl) (x_indexAddr ts_81 rfl rfl rfl rfl ne24) rfl rfl fun a_52 HE53 => ?_
      refine pl_x HE53 HH41 (wt0 rfl) (x_fieldAddr fa_195_1 rfl) rfl rfl fun a_54 HE55 => ?_
      refine pl_x HE55 HH41 (wt0 rfl) (x_load1 tv_31 rfl (c_foc (E := eMultiRule) (off := fe24) (k := i) (j := 1) 3 rfl rfl)) rfl rfl fun a_56 HE57 => ?_
      refine pl_x HE57 HH41 (wt0 rfl) (x_move rfl) rfl rfl fun a_58 HE59 => ?_
      refine pl fun K_60 hK61 => ?_
      refine st_call HE59 (wt0 rfl) rfl rfl rfl en_25 rfl rfl (mark_L_c _ _ e24.2.1 ((a1 + (cntL ct_MultiRule (a0.take i) : Int)) + 1) _ _ (so_of_o (HH41.get (i := 2) rfl)) (HH41.lt (i := 2) rfl) (by omega) (by omega)) fun e w' hr => ?_
      obtain ⟨rfl, hsr31, hcr31⟩ := hr
      have HH62 := HH41.mut (i := 2) rfl hcr31 (rSo eInt S25 Ae24_1 ce24_1 (mk_L e24.2.1 ((a1 + (cntL ct_MultiRule (a0.take i) : Int)) + 1))) (oSl hsr31) (fun b hb => .inl hb)
      clear hsr31 hcr31
      refine ⟨_, rfl, fun a_63 HE64 => hK61 _ _ ?_⟩
      refine pl_x HE64 HH62 (wt0 rfl) (x_assign rfl) rfl rfl fun a_65 HE66 => ?_
      refine wpList_nil ?_
      clear a_46 HE47 a_48 HE49 a_50 HE51 a_52 HE53 a_54 HE55 a_56 HE57 HH41 a_58 HE59 a_63 HE64 hK61 K_60
      refine nrm ?_
      refine wp_seq ?_
      refine rg ?_
      refine pl_x HE66 HH62 (wt0 rfl) (x_move rfl) rfl rfl fun a_67 HE68 => ?_
      refine pl_x HE68 HH62 (wt0 rfl) (x_move rfl) rfl rfl fun a_69 HE70 => ?_
      refine pl_x HE70 HH62 (wt0 rfl) (x_indexAddr ts_81 rfl rfl rfl rfl ne24) rfl rfl fun a_71 HE72 => ?_
      refine pl_x HE72 HH62 (wt0 rfl) (x_fieldAddr fa_195_2 rfl) rfl rfl fun a_73 HE74 => ?_
      refine pl_x HE74 HH62 (wt0 rfl) (x_load1 tv_31 rfl (c_foc (E := eMultiRule) (off := fe24) (k := i) (j := 2) 3 rfl rfl)) rfl rfl fun a_75 HE76 => ?_
      refine pl_x HE76 HH62 (wt0 rfl) (x_move rfl) rfl rfl fun a_77 HE78 => ?_
      refine pl fun K_79 hK80 => ?_
      refine st_call HE78 (wt0 rfl) rfl rfl rfl en_25 rfl rfl (mark_L_c _ _ e24.2.2.1 (((a1 + (cntL ct_MultiRule (a0.take i) : Int)) + 1) + (ct_L e24.2.1 : Int)) _ _ (so_of_o (HH62.get (i := 1) rfl)) (HH62.lt (i := 1) rfl) (by omega) (by omega)) fun e w' hr => ?_
      obtain ⟨rfl, hsr32, hcr32⟩ := hr
      have HH81 := HH62.mut (i := 1) rfl hcr32 (rSo eInt S27 Ae24_2 ce24_2 (mk_L e24.2.2.1 (((a1 + (cntL ct_MultiRule (a0.take i) : Int)) + 1) + (ct_L e24.2.1 : Int)))) (oSl hsr32) (fun b hb => .inl hb)
      clear hsr32 hcr32
      refine ⟨_, rfl, fun a_82 HE83 => hK80 _ _ ?_⟩
      refine pl_x HE83 HH81 (wt0 rfl) (x_assign rfl) rfl rfl fun a_84 HE85 => ?_
      refine wpList_nil ?_
      clear a_65 HE66 a_67 HE68 a_69 HE70 a_71 HE72 a_73 HE74 a_75 HE76 HH62 a_77 HE78 a_82 HE83 hK80 K_79
      refine nrm ?_
      refine wp_seq ?_
      refine rg ?_
      refine pl_x HE85 HH81 (wt0 rfl) (x_move rfl) rfl rfl fun a_86 HE87 => ?_
      refine pl_x HE87 HH81 (wt0 rfl) (x_move rfl) rfl rfl fun a_88 HE89 => ?_
      refine pl_x HE89 HH81 (wt0 rfl) (x_indexAddr ts_81 rfl rfl rfl rfl ne24) rfl rfl fun a_90 HE91 => ?_
      refine pl_x HE91 HH81 (wt0 rfl) (x_fieldAddr fa_195_3 rfl) rfl rfl fun a_92 HE93 => ?_
      refine pl_x HE93 HH81 (wt0 rfl) (x_load1 tv_31 rfl (c_foc (E := eMultiRule) (off := fe24) (k := i) (j := 3) 3 rfl rfl)) rfl rfl fun a_94 HE95 => ?_
      refine pl_x HE95 HH81 (wt0 rfl) (x_move rfl) rfl rfl fun a_96 HE97 => ?_
      refine pl fun K_98 hK99 => ?_
      refine st_call HE97 (wt0 rfl) rfl rfl rfl en_25 rfl rfl (mark_L_c _ _ e24.2.2.2.1 ((((a1 + (cntL ct_MultiRule (a0.take i) : Int)) + 1) + (ct_L e24.2.1 : Int)) + (ct_L e24.2.2.1 : Int)) _ _ (so_of_o (HH81.get (i := 0) rfl)) (HH81.lt (i := 0) rfl) (by omega) (by omega)) fun e w' hr => ?_
      obtain ⟨rfl, hsr33, hcr33⟩ := hr
      have HH100 := HH81.mut (i := 0) rfl hcr33 (rSo eInt S29 Ae24_3 ce24_3 (mk_L e24.2.2.2.1 ((((a1 + (cntL ct_MultiRule (a0.take i) : Int)) + 1) + (ct_L e24.2.1 : Int)) + (ct_L e24.2.2.1 : Int)))) (oSl hsr33) (fun b hb => .inl hb)
      clear hsr33 hcr33
      refine ⟨_, rfl, fun a_101 HE102 => hK99 _ _ ?_⟩
      refine pl_x HE102 HH100 (wt0 rfl) (x_assign rfl) rfl rfl fun a_103 HE104 => ?_
      refine wpList_nil ?_
      clear a_84 HE85 a_86 HE87 a_88 HE89 a_90 HE91 a_92 HE93 a_94 HE95 HH81 a_96 HE97 a_101 HE102 hK99 K_98
      refine nrm ?_
      refine wp_seq ?_
      refine rg ?_
      refine pl_x HE104 HH100 (wt0 rfl) (x_move rfl) rfl rfl fun a_105 HE106 => ?_
      refine pl_x HE106 HH100 (wt0 rfl) (x_move rfl) rfl rfl fun a_107 HE108 => ?_
      refine pl_x HE108 HH100 (wt0 rfl) (x_move rfl) rfl rfl fun a_109 HE110 => ?_
      refine pl_x HE110 HH100 (wt0 rfl) (x_indexAddr ts_81 rfl rfl rfl rfl ne24) rfl rfl fun a_111 HE112 => ?_
      refine pl_x HE112 HH100 (wt0 rfl) (x_fieldAddr fa_195_4 rfl) rfl rfl fun a_113 HE114 => ?_
      refine pl fun K_115 hK116 => ?_
      refine st_storeF (j := 4) 3 HE114 HH100 tv_2 rfl rfl rfl rfl rfl rfl (wt0 rfl) fun w' HH117 => hK116 _ _ ?_
      refine wpList_nil ?_
      clear a_103 HE104 a_105 HE106 a_107 HE108 a_109 HE110 a_111 HE112 HH100 hK116 K_115
      refine nrm ?_
      refine rg ?_
      refine pl_x HE114 HH117 (wt0 rfl) (x_move rfl) rfl rfl fun a_118 HE119 => ?_
      refine pl_x HE119 HH117 (wt0 rfl) (x_add rfl rfl (by exact ⟨by omega, by omega⟩)) rfl rfl fun a_120 HE121 => ?_
      refine pl_x HE121 HH117 (wt0 rfl) (x_assign rfl) rfl rfl fun a_122 HE123 => ?_
      refine wpList_nil ?_
      clear a_113 HE114 a_118 HE119 a_120 HE121
      refine blk_n ?_
      refine nrm ?_
      refine rg ?_
      refine pl_x HE123 HH117 (wt0 rfl) (x_move rfl) rfl rfl fun a_124 HE125 => ?_
      refine pl_x HE125 HH117 (wt0 rfl) (x_add rfl rfl (by exact ⟨by omega, by omega⟩)) rfl rfl fun a_126 HE127 => ?_
      refine pl_x HE127 HH117 (wt0 rfl) (x_assign rfl) rfl rfl fun a_128 HE129 => ?_
      refine wpList_nil ?_
      clear a_122 HE123 a_124 HE125 a_126 HE127
      have HH130 := HH117.sel [2, 0, 1, 3] (by decide) rfl
      have HH131 := HH130.relen (n := e24.2.1.length) (by first | exact mkL_len _ _ _ _ | (simp; done) | (simp; omega))
      have HH132 := HH131.sel [2, 0, 1, 3] (by decide) rfl
      have HH133 := HH132.relen (n := e24.2.2.1.length) (by first | exact mkL_len _ _ _ _ | (simp; done) | (simp; omega))
      have HH134 := HH133.sel [2, 0, 1, 3] (by decide) rfl
      have HH135 := HH134.relen (n := e24.2.2.2.1.length) (by first | exact mkL_len _ _ _ _ | (simp; done) | (simp; omega))
      have HH136 := HH135.sel [2, 1, 0, 3] (by decide) rfl
      have HH137 := HH136.sel [2, 0, 1, 3] (by decide) rfl
      have HH138 := HH137.pairB (F := eInt) (c2 := [.int .i64 ((((((a1 + (cntL ct_MultiRule (a0.take i) : Int)) + 1) + (ct_L e24.2.1 : Int)) + (ct_L e24.2.2.1 : Int)) + (ct_L e24.2.2.2.1 : Int)))]) (y := (((((a1 + (cntL ct_MultiRule (a0.take i) : Int)) + 1) + (ct_L e24.2.1 : Int)) + (ct_L e24.2.2.1 : Int)) + (ct_L e24.2.2.2.1 : Int))) (oI (by exact ⟨by omega, by omega⟩))
      have HH139 := HH138.sel [2, 0, 1, 3] (by decide) rfl
      have HH140 := HH139.pair
      have HH141 := HH140.sel [1, 0, 2] (by decide) rfl
      have HH142 := HH141.pair
      have HH143 := HH142.pairF (E := eInt) (c1 := [.int .i64 ((a1 + (cntL ct_MultiRule (a0.take i) : Int)))]) (x := (a1 + (cntL ct_MultiRule (a0.take i) : Int))) (oI (by exact ⟨by omega, by omega⟩))
      obtain ⟨S34, HH144⟩ : ∃ S, Held M w (rO eMultiRule S [.int .i64 ((a1 + (cntL ct_MultiRule (a0.take i) : Int))), .slice Ae24_1 (e24.2.1.length) ce24_1, .slice Ae24_2 (e24.2.2.1.length) ce24_2, .slice Ae24_3 (e24.2.2.2.1.length) ce24_3, .int .i64 ((((((a1 + (cntL ct_MultiRule (a0.take i) : Int)) + 1) + (ct_L e24.2.1 : Int)) + (ct_L e24.2.2.1 : Int)) + (ct_L e24.2.2.2.1 : Int)))] ((a1 + (cntL ct_MultiRule (a0.take i) : Int)), (mk_L e24.2.1 ((a1 + (cntL ct_MultiRule (a0.take i) : Int)) + 1)), (mk_L e24.2.2.1 (((a1 + (cntL ct_MultiRule (a0.take i) : Int)) + 1) + (ct_L e24.2.1 : Int))), (mk_L e24.2.2.2.1 ((((a1 + (cntL ct_MultiRule (a0.take i) : Int)) + 1) + (ct_L e24.2.1 : Int)) + (ct_L e24.2.2.1 : Int))), (((((a1 + (cntL ct_MultiRule (a0.take i) : Int)) + 1) + (ct_L e24.2.1 : Int)) + (ct_L e24.2.2.1 : Int)) + (ct_L e24.2.2.2.1 : Int))) :: _) _ := ⟨_, HH143⟩
      have HH145 := HH144.sel [1, 0] (by decide) rfl
      have HH146 := HH145.shut
      obtain ⟨S35, HH147⟩ : ∃ S, Held M w (rSo eMultiRule S (some ⟨be24, fe24, none⟩) c0 ((mkTo mk_MultiRule ct_MultiRule a0 a1 i).set i ((a1 + (cntL ct_MultiRule (a0.take i) : Int)), (mk_L e24.2.1 ((a1 + (cntL ct_MultiRule (a0.take i) : Int)) + 1)), (mk_L e24.2.2.1 (((a1 + (cntL ct_MultiRule (a0.take i) : Int)) + 1) + (ct_L e24.2.1 : Int))), (mk_L e24.2.2.2.1 ((((a1 + (cntL ct_MultiRule (a0.take i) : Int)) + 1) + (ct_L e24.2.1 : Int)) + (ct_L e24.2.2.1 : Int))), (((((a1 + (cntL ct_MultiRule (a0.take i) : Int)) + 1) + (ct_L e24.2.1 : Int)) + (ct_L e24.2.2.1 : Int)) + (ct_L e24.2.2.2.1 : Int)))) :: _) _ := ⟨_, HH146⟩
      have E36 : mkTo mk_MultiRule ct_MultiRule a0 a1 (i + 1) = ((mkTo mk_MultiRule ct_MultiRule a0 a1 i).set i ((a1 + (cntL ct_MultiRule (a0.take i) : Int)), (mk_L e24.2.1 ((a1 + (cntL ct_MultiRule (a0.take i) : Int)) + 1)), (mk_L e24.2.2.1 (((a1 + (cntL ct_MultiRule (a0.take i) : Int)) + 1) + (ct_L e24.2.1 : Int))), (mk_L e24.2.2.2.1 ((((a1 + (cntL ct_MultiRule (a0.take i) : Int)) + 1) + (ct_L e24.2.1 : Int)) + (ct_L e24.2.2.1 : Int))), (((((a1 + (cntL ct_MultiRule (a0.take i) : Int)) + 1) + (ct_L e24.2.1 : Int)) + (ct_L e24.2.2.1 : Int)) + (ct_L e24.2.2.2.1 : Int)))) := by
        rw [← mkTo_step mk_MultiRule ct_MultiRule a0 a1 i (by omega), ← hxe24]; rfl
      exact nrm ⟨a0.length - (i + 1), (by omega), i + 1, S35, rfl, HE129.sub ⟨(lkI rfl (by omega)), (lkI rfl (by first | rfl | omega | (simp [p22_0, hc23, xe24]; done))), rfl, trivial⟩, ((HH147.sel [0] (by decide) rfl).to (by first | rfl | (rw [E36]; done) | (rw [E36]; rfl) | (simp only [E36]; done) | (simp only [E36]; rfl))), (by first | omega | assumption | (simp; done) | simp_all)⟩
    · refine wp_exit ?_
      refine (thn_exit (thn_exit (blk_hit ?_)))
      refine nrm ?_
      refine wp_seq ?_
      refine rg ?_
      refine pl_x HE18 HH10 (wt0 rfl) (x_move rfl) rfl rfl fun a_148 HE149 => ?_
      refine pl_x HE149 HH10 (wt0 rfl) (x_assign rfl) rfl rfl fun a_150 HE151 => ?_
      refine wpList_nil ?_
      clear a_17 HE18 a_148 HE149
      refine nrm ?_
      refine wp_ret ?_
      refine ret1 HE151 rfl (rv_tmp rfl) ?_
      have hF : (mkR_SMultiRule a0 a1) = ((a1 + (cntL ct_MultiRule (a0.take i) : Int)), mkTo mk_MultiRule ct_MultiRule a0 a1 i) := by
        unfold mkR_SMultiRule ct_SMultiRule mk_SMultiRule; rw [show i = a0.length from by omega, mkTo_end, List.take_length]
      exact ⟨_, by rw [hF] <;> rfl, by rw [hF]; exact HH10.sel [0] (by decide) rfl⟩

def mkR_Multi (x : tMulti) (k : Int) : Int × tMulti := (k + (cv_Multi x : Int), mv_Multi x k)

set_option maxRecDepth 100000 in
set_option maxHeartbeats 4000000 in
theorem mark_Multi_h (M : Nat → Prop) (es0 : List Value) (a0 : tMulti) (S0 : Nat → Prop) (a1 : Int) (w : World) (HM : Held M w [rO eMulti S0 es0 a0] w) (s0 : 0 ≤ a1) (s1 : a1 + (cv_Multi a0 : Int) ≤ 1000000000000) :
    Calls Try.prog 63 #[.agg es0.toArray, .int .i64 a1] w fun e w' => ∃ (S0' : Nat → Prop), e = .returned (.int .i64 (mkR_Multi a0 a1).1) ∧ Held M w [rO eMulti S0' es0 (mkR_Multi a0 a1).2] w' := by
  have HH1 := HM
  have R0 := HH1.rd (i := 0) rfl
  obtain ⟨Az0_3, cz0_3, rfl, gz0_0, gz0_1, gz0_2, gz0_3⟩ := shape_Multi R0
  have jz0_0 := gz0_0; unfold I64 at jz0_0
  have jz0_1 := gz0_1; unfold I64 at jz0_1
  have jz0_2 := gz0_2; unfold I64 at jz0_2
  have lz0_3 := gz0_3.len
  clear R0
  have HH2 := HH1.unF rfl
  have HH3 := HH2.unF rfl
  have HH4 := HH3.unF rfl
  have hc0 : cv_Multi a0 = ct_SMultiRule a0.2.2.2 := rfl
  refine enter (n := 10) Try.func63 rfl rfl rfl fun a_5 HE6 => ?_
  refine wp_seq ?_
  refine rg ?_
  refine pl fun K_7 hK8 => ?_
  refine st_box (cs := [.int .i64 (a0.1), .int .i64 (a0.2.1), .int .i64 (a0.2.2.1), .slice Az0_3 (a0.2.2.2.length) cz0_3]) HE6 HH4 rfl rfl (wt0 rfl) rfl fun q21 a_9 w' HE10 HH11 => hK8 _ _ ?_
  refine pl_x HE10 HH11 (wt0 rfl) (x_assign rfl) rfl rfl fun a_12 HE13 => ?_
  refine wpList_nil ?_
  clear HH1 HH2 HH3 a_5 HE6 HH4 a_9 HE10 hK8 K_7
  refine nrm ?_
  refine wp_seq ?_
  refine rg ?_
  refine pl_x HE13 HH11 (wt0 rfl) (x_fieldAddr fa_83_3 rfl) rfl rfl fun a_14 HE15 => ?_
  refine pl_x HE15 HH11 (wt0 rfl) (x_load1 tv_81 rfl (c_blk 0 rfl rfl)) rfl rfl fun a_16 HE17 => ?_
  refine pl_x HE17 HH11 (wt0 rfl) (x_move rfl) rfl rfl fun a_18 HE19 => ?_
  refine pl fun K_20 hK21 => ?_
  have HH22 := HH11.sel [1, 0] (by decide) rfl
  have HH23 : Held M w ([rSo eMultiRule S0 Az0_3 cz0_3 a0.2.2.2] ++ [rBlk q21 83 [.int .i64 (a0.1), .int .i64 (a0.2.1), .int .i64 (a0.2.2.1), .slice Az0_3 (a0.2.2.2.length) cz0_3]]) _ := HH22
  refine st_call HE19 (wt0 rfl) rfl rfl rfl en_146 rfl rfl (mark_SMultiRule_h (Foot [rSo eMultiRule S0 Az0_3 cz0_3 a0.2.2.2]) _ _ a0.2.2.2 _ a1 _ HH23.focus (by omega) (by omega)) fun e w' hr => ?_
  obtain ⟨Sr22, rfl, hbr22⟩ := hr
  have HH24 := HH23.back hbr22
  clear hbr22
  have HH25 : Held M w (rSo eMultiRule Sr22 Az0_3 cz0_3 (mk_SMultiRule a0.2.2.2 a1) :: [rBlk q21 83 [.int .i64 (a0.1), .int .i64 (a0.2.1), .int .i64 (a0.2.2.1), .slice Az0_3 (a0.2.2.2.length) cz0_3]]) _ := HH24
  refine ⟨_, rfl, fun a_26 HE27 => hK21 _ _ ?_⟩
  refine pl_x HE27 HH25 (wt0 rfl) (x_assign rfl) rfl rfl fun a_28 HE29 => ?_
  refine wpList_nil ?_
  clear a_12 HE13 a_14 HE15 a_16 HE17 HH11 HH22 HH23 HH24 a_18 HE19 a_26 HE27 hK21 K_20
  refine nrm ?_
  refine wp_seq ?_
  refine rg ?_
  refine pl_x HE29 HH25 (wt0 rfl) (x_move rfl) rfl rfl fun a_30 HE31 => ?_
  refine pl_x HE31 HH25 (wt0 rfl) (x_assign rfl) rfl rfl fun a_32 HE33 => ?_
  refine wpList_nil ?_
  clear a_28 HE29 a_30 HE31
  refine nrm ?_
  refine wp_ret ?_
  refine ret1 HE33 rfl (rv_tmp rfl) ?_
  have HH34 := HH25.relen (n := a0.2.2.2.length) (by first | exact mkL_len _ _ _ _ | (simp; done) | (simp; omega))
  have HH35 := HH34.pairF (E := eInt) (c1 := [.int .i64 (a0.2.2.1)]) (x := a0.2.2.1) (oI (by exact ⟨by omega, by omega⟩))
  have HH36 := HH35.pairF (E := eInt) (c1 := [.int .i64 (a0.2.1)]) (x := a0.2.1) (oI (by exact ⟨by omega, by omega⟩))
  have HH37 := HH36.pairF (E := eInt) (c1 := [.int .i64 (a0.1)]) (x := a0.1) (oI (by exact ⟨by omega, by omega⟩))
  obtain ⟨S23, HH38⟩ : ∃ S, Held M w (rO eMulti S [.int .i64 (a0.1), .int .i64 (a0.2.1), .int .i64 (a0.2.2.1), .slice Az0_3 (a0.2.2.2.length) cz0_3] (a0.1, a0.2.1, a0.2.2.1, (mk_SMultiRule a0.2.2.2 a1)) :: _) _ := ⟨_, HH37⟩
  have hF : (mkR_Multi a0 a1) = ((a1 + (ct_SMultiRule a0.2.2.2 : Int)), (a0.1, a0.2.1, a0.2.2.1, (mk_SMultiRule a0.2.2.2 a1))) := by
    rfl
  exact ⟨_, by rw [hF] <;> rfl, by rw [hF]; exact HH38.sel [0] (by decide) rfl⟩

def mkR_MultiConfig (x : tMultiConfig) (k : Int) : Int × tMultiConfig := (k + (cv_MultiConfig x : Int), mv_MultiConfig x k)

set_option maxRecDepth 100000 in
set_option maxHeartbeats 4000000 in
theorem mark_MultiConfig_h (M : Nat → Prop) (es0 : List Value) (a0 : tMultiConfig) (S0 : Nat → Prop) (a1 : Int) (w : World) (HM : Held M w [rO eMultiConfig S0 es0 a0] w) (s0 : 0 ≤ a1) (s1 : a1 + (cv_MultiConfig a0 : Int) ≤ 1000000000000) :
    Calls Try.prog 70 #[.agg es0.toArray, .int .i64 a1] w fun e w' => ∃ (S0' : Nat → Prop), e = .returned (.int .i64 (mkR_MultiConfig a0 a1).1) ∧ Held M w [rO eMultiConfig S0' es0 (mkR_MultiConfig a0 a1).2] w' := by
  have HH1 := HM
  have R0 := HH1.rd (i := 0) rfl
  obtain ⟨Az0_1, cz0_1, rfl, gz0_0, gz0_1⟩ := shape_MultiConfig R0
  have jz0_0 := gz0_0; unfold I64 at jz0_0
  have lz0_1 := gz0_1.len
  clear R0
  have HH2 := HH1.unF rfl
  have hc0 : cv_MultiConfig a0 = ct_STape a0.2 := rfl
  refine enter (n := 10) Try.func70 rfl rfl rfl fun a_3 HE4 => ?_
  refine wp_seq ?_
  refine rg ?_
  refine pl fun K_5 hK6 => ?_
  refine st_box (cs := [.int .i64 (a0.1), .slice Az0_1 (a0.2.length) cz0_1]) HE4 HH2 rfl rfl (wt0 rfl) rfl fun q21 a_7 w' HE8 HH9 => hK6 _ _ ?_
  refine pl_x HE8 HH9 (wt0 rfl) (x_assign rfl) rfl rfl fun a_10 HE11 => ?_
  refine wpList_nil ?_
  clear HH1 a_3 HE4 HH2 a_7 HE8 hK6 K_5
  refine nrm ?_
  refine wp_seq ?_
  refine rg ?_
  refine pl_x HE11 HH9 (wt0 rfl) (x_fieldAddr fa_87_1 rfl) rfl rfl fun a_12 HE13 => ?_
  refine pl_x HE13 HH9 (wt0 rfl) (x_load1 tv_85 rfl (c_blk 0 rfl rfl)) rfl rfl fun a_14 HE15 => ?_
  refine pl_x HE15 HH9 (wt0 rfl) (x_move rfl) rfl rfl fun a_16 HE17 => ?_
  refine pl fun K_18 hK19 => ?_
  have HH20 := HH9.sel [1, 0] (by decide) rfl
  have HH21 : Held M w ([rSo eTape S0 Az0_1 cz0_1 a0.2] ++ [rBlk q21 87 [.int .i64 (a0.1), .slice Az0_1 (a0.2.length) cz0_1]]) _ := HH20
  refine st_call HE17 (wt0 rfl) rfl rfl rfl en_153 rfl rfl (mark_STape_h (Foot [rSo eTape S0 Az0_1 cz0_1 a0.2]) _ _ a0.2 _ a1 _ HH21.focus (by omega) (by omega)) fun e w' hr => ?_
  obtain ⟨Sr22, rfl, hbr22⟩ := hr
  have HH22 := HH21.back hbr22
  clear hbr22
  have HH23 : Held M w (rSo eTape Sr22 Az0_1 cz0_1 (mk_STape a0.2 a1) :: [rBlk q21 87 [.int .i64 (a0.1), .slice Az0_1 (a0.2.length) cz0_1]]) _ := HH22
  refine ⟨_, rfl, fun a_24 HE25 => hK19 _ _ ?_⟩
  refine pl_x HE25 HH23 (wt0 rfl) (x_assign rfl) rfl rfl fun a_26 HE27 => ?_
  refine wpList_nil ?_
  clear a_10 HE11 a_12 HE13 a_14 HE15 HH9 HH20 HH21 HH22 a_16 HE17 a_24 HE25 hK19 K_18
  refine nrm ?_
  refine wp_seq ?_
  refine rg ?_
  refine pl_x HE27 HH23 (wt0 rfl) (x_move rfl) rfl rfl fun a_28 HE29 => ?_
  refine pl_x HE29 HH23 (wt0 rfl) (x_assign rfl) rfl rfl fun a_30 HE31 => ?_
  refine wpList_nil ?_
  clear a_26 HE27 a_28 HE29
  refine nrm ?_
  refine wp_ret ?_
  refine ret1 HE31 rfl (rv_tmp rfl) ?_
  have HH32 := HH23.relen (n := a0.2.length) (by first | exact mkL_len _ _ _ _ | (simp; done) | (simp; omega))
  have HH33 := HH32.pairF (E := eInt) (c1 := [.int .i64 (a0.1)]) (x := a0.1) (oI (by exact ⟨by omega, by omega⟩))
  obtain ⟨S23, HH34⟩ : ∃ S, Held M w (rO eMultiConfig S [.int .i64 (a0.1), .slice Az0_1 (a0.2.length) cz0_1] (a0.1, (mk_STape a0.2 a1)) :: _) _ := ⟨_, HH33⟩
  have hF : (mkR_MultiConfig a0 a1) = ((a1 + (ct_STape a0.2 : Int)), (a0.1, (mk_STape a0.2 a1))) := by
    rfl
  exact ⟨_, by rw [hF] <;> rfl, by rw [hF]; exact HH34.sel [0] (by decide) rfl⟩

set_option maxRecDepth 100000 in
set_option maxHeartbeats 4000000 in
theorem held_MultiConfig_e (es0 : List Value) (a0 : tMultiConfig) (a1 : Int) (z : tMultiConfig) (w : World) (h0 : eMultiConfig.R w (Old w) es0 a0) (sz : a0 = mv_MultiConfig z a1) (s0 : 0 ≤ a1) (s1 : a1 + (cv_MultiConfig z : Int) ≤ 1000000000000) :
    Calls Try.prog 71 #[.agg es0.toArray, .int .i64 a1] w fun e w' => e = .returned (.int .i64 (a1 + (cv_MultiConfig z : Int))) ∧ Below w.heap.size w w' := by
  have H0 := h0
  obtain ⟨Az0_1, cz0_1, rfl, gz0_0, gz0_1⟩ := shape_MultiConfig h0
  have jz0_0 := gz0_0; unfold I64 at jz0_0
  have lz0_1 := gz0_1.len
  obtain ⟨za0, hza0⟩ : ∃ y, y = z := ⟨_, rfl⟩
  have hxa0 : a0 = mv_MultiConfig za0 a1 := by rw [hza0]; exact sz
  have hc0 : cv_MultiConfig z = ct_STape za0.2 := by rw [hza0]; rfl
  have HH1 := Held.start Nob w
  refine enter (n := 12) Try.func71 rfl rfl rfl fun a_2 HE3 => ?_
  refine wp_seq ?_
  refine rg ?_
  refine pl fun K_4 hK5 => ?_
  refine st_box (cs := [.int .i64 (a0.1), .slice Az0_1 (a0.2.length) cz0_1]) HE3 HH1 rfl rfl (wt0 rfl) rfl fun q21 a_6 w' HE7 HH8 => hK5 _ _ ?_
  refine pl_x HE7 HH8 (wt0 rfl) (x_assign rfl) rfl rfl fun a_9 HE10 => ?_
  refine wpList_nil ?_
  clear a_2 HE3 HH1 a_6 HE7 hK5 K_4
  refine nrm ?_
  refine wp_seq ?_
  refine rg ?_
  refine pl_x HE10 HH8 (wt0 rfl) (x_fieldAddr fa_87_1 rfl) rfl rfl fun a_11 HE12 => ?_
  refine pl_x HE12 HH8 (wt0 rfl) (x_load1 tv_85 rfl (c_blk 0 rfl rfl)) rfl rfl fun a_13 HE14 => ?_
  refine pl_x HE14 HH8 (wt0 rfl) (x_move rfl) rfl rfl fun a_15 HE16 => ?_
  refine pl fun K_17 hK18 => ?_
  refine st_call HE16 (wt0 rfl) rfl rfl rfl en_154 rfl rfl (held_STape_e _ _ a0.2 a1 za0.2 _ (HH8.old gz0_1) (by rw [hxa0]; rfl) (by omega) (by omega)) fun e w' hr => ?_
  obtain ⟨rfl, hbr22⟩ := hr
  have HH19 := HH8.on hbr22
  clear hbr22
  refine ⟨_, rfl, fun a_20 HE21 => hK18 _ _ ?_⟩
  refine pl_x HE21 HH19 (wt0 rfl) (x_assign rfl) rfl rfl fun a_22 HE23 => ?_
  refine wpList_nil ?_
  clear a_9 HE10 a_11 HE12 a_13 HE14 HH8 a_15 HE16 a_20 HE21 hK18 K_17
  refine nrm ?_
  refine wp_seq ?_
  refine wp_seq ?_
  refine rg ?_
  refine pl_x HE23 HH19 (wt0 rfl) (x_move rfl) rfl rfl fun a_24 HE25 => ?_
  refine pl_x HE25 HH19 (wt0 rfl) (x_lss rfl rfl) rfl rfl fun a_26 HE27 => ?_
  refine wpList_nil ?_
  clear a_22 HE23 a_24 HE25
  refine nrm ?_
  refine cnd_d HE27 rfl (fun hc23 => ?_) (fun hc23 => ?_)
  · refine wp_seq ?_
    refine rg ?_
    refine pl_x HE27 HH19 (wt0 rfl) (x_assign rfl) rfl rfl fun a_28 HE29 => ?_
    refine wpList_nil ?_
    clear a_26 HE27
    refine nrm ?_
    refine wp_ret ?_
    refine (thn_ret ?_)
    refine ret1 HE29 rfl (rv_tmp rfl) ?_
    have hF : (a1 + (cv_MultiConfig z : Int)) = -1 := by
      first | (exfalso; omega) | (rw [hc0])
    exact ⟨by rw [hF] <;> rfl, HH19.below⟩
  · refine wp_skip ?_
    refine nrm ?_
    refine wp_seq ?_
    refine rg ?_
    refine pl_x HE27 HH19 (wt0 rfl) (x_move rfl) rfl rfl fun a_30 HE31 => ?_
    refine pl_x HE31 HH19 (wt0 rfl) (x_assign rfl) rfl rfl fun a_32 HE33 => ?_
    refine wpList_nil ?_
    clear a_26 HE27 a_30 HE31
    refine nrm ?_
    refine wp_ret ?_
    refine ret1 HE33 rfl (rv_tmp rfl) ?_
    have hF : (a1 + (cv_MultiConfig z : Int)) = (a1 + (ct_STape za0.2 : Int)) := by
      first | (exfalso; omega) | (rw [hc0])
    exact ⟨by rw [hF] <;> rfl, HH19.below⟩

theorem elem_Int64 : Elem Try.prog eInt 31 2 8 := by
  obtain ⟨i0, hi0, hz0, hz1, hz2⟩ := info_parts info_impl_Int64
  exact ⟨Try.underlying31, i0, _, hi0, hz0, hz1, hz2, rfl⟩

set_option maxHeartbeats 400000 in
theorem spec_l00Own (A : Option Addr) (c : Nat) (xs : List Int) (w : World) (h : Sl eInt w (Old w) A c xs) (hsm : xs.length ≤ 1000000000000) :
    Calls Try.prog 100 #[.slice A xs.length c] w fun e w' => ∃ A' c', e = .returned (.slice A' xs.length c') ∧ So eInt w' (Fr w w') A' c' xs ∧ Below w.heap.size w w' := by
  have H := Lib.hid (h.on (below_alloc (Below.refl _ _) (.cells #[] 2))); clear h
  go_enter Try.func100, Try.ntmps100
  go_wp2_with (at_builtin; refine wpList_append_row flat_int elem_Int64 rfl _ _ rfl (base := w.heap.size) rfl (Row.empty (Nat.le_refl _)) rfl H.out (by simp only [List.length_nil]; unfold maxLen; omega) (by simp only [List.length_nil]; omega) (by simp) ?_)
  intro v' w1 hrow hgrow hat
  try rw [List.nil_append] at hrow
  obtain ⟨A', c', rfl, hso⟩ := hrow.so
  have HO := Lib.hid hso
  have HL : Hid (Below w.heap.size w w1) := ((Below.refl _ w).alloc (Nat.le_refl _) _).grown hgrow (by simp) (by intro k hk; simp [Value.ownBlock] at hk; omega)
  clear hrow hgrow hat hso
  go_wp2
  go_ret
  exact ⟨A', c', rfl, HO.out, HL.out⟩

set_option maxHeartbeats 400000 in
theorem Clone_Int64 (A : Option Addr) (c : Nat) (xs : List Int) (w : World) (h : Sl eInt w (Old w) A c xs) (hsm : xs.length ≤ 1000000000000) :
    Calls Try.prog 152 #[.slice A xs.length c] w fun e w' => ∃ A' c', e = .returned (.slice A' xs.length c') ∧ So eInt w' (Fr w w') A' c' xs ∧ Below w.heap.size w w' := by
  have q22 : ∀ (w : World) (a : Option Addr) (n c n' c' : Nat), (binOp .eql 31 (.slice a n c) (.slice none n' c')).run Try.prog w = .ok (.bool a.isNone) w := fun w a n c n' c' => Lib.run_eql_slice_nil w _ _ a n c n' c' Try.underlying31
  cases A with
  | none =>
    have hx : xs = [] := Classical.byContradiction fun hn => by
      obtain ⟨b, off, hA, _⟩ := h.2.2 hn
      cases hA
    subst hx
    clear h
    go_enter Try.func152, Try.ntmps152
    go_wp2
    go_ret
    exact ⟨none, 0, rfl, So.nil (Nat.zero_le _), Below.refl _ _⟩
  | some ad =>
    have H := Lib.hid (h.on (below_alloc (Below.refl _ _) (.cells #[] 2))); clear h
    go_enter Try.func152, Try.ntmps152
    go_wp2_with (at_builtin; refine wpList_append_row flat_int elem_Int64 rfl _ _ rfl (base := w.heap.size) rfl (Row.empty (Nat.le_refl _)) rfl H.out (by simp only [List.length_nil]; unfold maxLen; omega) (by simp only [List.length_nil]; omega) (by simp) ?_)
    intro v' w1 hrow hgrow hat
    try rw [List.nil_append] at hrow
    obtain ⟨A', c', rfl, hso⟩ := hrow.so
    have HO := Lib.hid hso
    have HL : Hid (Below w.heap.size w w1) := ((Below.refl _ w).alloc (Nat.le_refl _) _).grown hgrow (by simp) (by intro k hk; simp [Value.ownBlock] at hk; omega)
    clear hrow hgrow hat hso
    go_wp2
    go_ret
    exact ⟨A', c', rfl, HO.out, HL.out⟩

/-- Zeros struck off at the end. -/
def trimZ (xs : List Int) : List Int := (xs.reverse.dropWhile (· == 0)).reverse

theorem trimZ_zero (xs : List Int) (k : Nat) (h : k < xs.length) (h0 : xs[k] = 0) : trimZ (xs.take (k + 1)) = trimZ (xs.take k) := by
  unfold trimZ
  rw [List.take_succ_eq_append_getElem h, h0, List.reverse_append]; rfl

theorem trimZ_stop (xs : List Int) (k : Nat) (h : k < xs.length) (h0 : xs[k] ≠ 0) : trimZ (xs.take (k + 1)) = xs.take (k + 1) := by
  unfold trimZ
  rw [List.take_succ_eq_append_getElem h, List.reverse_append]
  show (List.dropWhile (· == 0) (xs[k] :: (xs.take k).reverse)).reverse = _
  rw [List.dropWhile_cons_of_neg (by simpa using h0)]; simp

theorem impl_trimmed (A : Option Addr) (c : Nat) (xs : List Int) (w : World) (h : Sl eInt w (Old w) A c xs) :
    Calls Try.prog 151 #[.slice A xs.length c] w fun e w' => e = .returned (.slice A (trimZ xs).length c) ∧ (∃ k, trimZ xs = xs.take k) ∧ w = w' := by
  have hlen := h.len
  have hcap := h.cap
  have hmax := h.2.1
  have H := Lib.hid h; clear h
  go_enter Try.func151, Try.ntmps151
  go_wp2
  go_loop [0] (fun s0 => ∃ k : Nat, k ≤ xs.length ∧ s0 = .slice A k c ∧ Hid (trimZ (xs.take k) = trimZ xs)) (fun s0 => match s0 with | .slice _ n _ => n | _ => 0)
  case atStart => exact ⟨xs.length, Nat.le_refl _, rfl, by show _ = _; rw [List.take_length]⟩
  case round =>
    obtain ⟨k, hk, rfl, HN⟩ := hrel
    rcases k with _ | k
    · have HF : Hid (trimZ xs = []) := by show _ = _; rw [← HN.out]; rfl
      go_wp2
      go_ret
      exact ⟨by rw [HF.out]; rfl, ⟨0, by rw [HF.out]; rfl⟩, rfl⟩
    · have hlt : k < xs.length := by omega
      obtain ⟨b, off, es, rfl, hb, ⟨rfl, _⟩, hc⟩ := H.out.at1 rfl hlt
      have d0 : w.cell? ⟨b, off + k, none⟩ = some (.int .i64 xs[k]) := hc _ rfl
      clear hc
      have HZ := Lib.hid (trimZ_zero xs k hlt)
      have HS := Lib.hid (trimZ_stop xs k hlt)
      generalize xs[k] = y at d0 HZ HS
      cases q : (y == 0)
      · have HF : Hid (trimZ xs = xs.take (k + 1)) := by show _ = _; rw [← HN.out, HS.out (by simpa using q)]
        go_wp2
        go_ret
        exact ⟨by rw [HF.out, List.length_take, show min (k + 1) xs.length = k + 1 from by omega]; rfl, ⟨k + 1, HF.out⟩, rfl⟩
      · go_wp2
        go_round
        case rel => exact ⟨k, by omega, by go_num, by show _ = _; rw [← HN.out, HZ.out (by simpa using q)]⟩
        case measure => simp

theorem spec_l02Trim (A : Option Addr) (c : Nat) (xs : List Int) (w : World) (h : Sl eInt w (Old w) A c xs) :
    Calls Try.prog 218 #[.slice A xs.length c] w fun e w' => e = .returned (.slice A (trimZ xs).length c) ∧ (∃ k, trimZ xs = xs.take k) ∧ w = w' := by
  have hlen := h.len
  have hcap := h.cap
  have hmax := h.2.1
  have H := Lib.hid h; clear h
  go_enter Try.func218, Try.ntmps218
  go_wp2
  go_loop [3] (fun s3 => ∃ k : Nat, k ≤ xs.length ∧ s3 = .int .i64 k ∧ Hid (trimZ (xs.take k) = trimZ xs)) (fun s3 => (intOf s3).toNat)
  case atStart => exact ⟨xs.length, Nat.le_refl _, rfl, by show _ = _; rw [List.take_length]⟩
  case round =>
    obtain ⟨k, hk, rfl, HN⟩ := hrel
    have hkc : (k : Int) ≤ (c : Int) := by omega
    rcases k with _ | k
    · have HF : Hid (trimZ xs = []) := by show _ = _; rw [← HN.out]; rfl
      go_wp2
      go_ret
      exact ⟨by rw [HF.out]; rfl, ⟨0, by rw [HF.out]; rfl⟩, rfl⟩
    · have hlt : k < xs.length := by omega
      have hltz : (k : Int) < (xs.length : Int) := by omega
      obtain ⟨b, off, es, rfl, hb, ⟨rfl, _⟩, hc⟩ := H.out.at1 rfl hlt
      have d0 : w.cell? ⟨b, off + k, none⟩ = some (.int .i64 xs[k]) := hc _ rfl
      clear hc
      have HZ := Lib.hid (trimZ_zero xs k hlt)
      have HS := Lib.hid (trimZ_stop xs k hlt)
      generalize xs[k] = y at d0 HZ HS
      cases q : (y == 0)
      · have HF : Hid (trimZ xs = xs.take (k + 1)) := by show _ = _; rw [← HN.out, HS.out (by simpa using q)]
        go_wp2
        go_ret
        exact ⟨by rw [HF.out, List.length_take, show min (k + 1) xs.length = k + 1 from by omega]; rfl, ⟨k + 1, HF.out⟩, rfl⟩
      · go_wp2
        go_round
        case rel => exact ⟨k, by omega, by go_num, by show _ = _; rw [← HN.out, HZ.out (by simpa using q)]⟩
        case measure => simp [intOf]

set_option maxHeartbeats 400000 in
theorem spec_l06Trim (A : Option Addr) (c : Nat) (xs : List Int) (w : World) (h : Sl eInt w (Old w) A c xs) (hsm : xs.length ≤ 1000000000000) :
    Calls Try.prog 147 #[.slice A xs.length c] w fun e w' => ∃ A' c', e = .returned (.slice A' (trimZ xs).length c') ∧ So eInt w' (Fr w w') A' c' (trimZ xs) ∧ Below w.heap.size w w' := by
  have HC := Lib.hid (spec_l02Trim A c xs w h)
  have H := Lib.hid h; clear h
  go_enter Try.func147, Try.ntmps147
  go_wp2_with fail
  refine HC.out.mono ?_
  rintro e w1 ⟨rfl, ⟨k, hk⟩, rfl⟩
  have hle : (trimZ xs).length ≤ 1000000000000 := by rw [hk, List.length_take]; omega
  have HO := Lib.hid (spec_l00Own A c (trimZ xs) w (by rw [hk]; exact H.out.take k) hle)
  clear hk
  go_wp2_with (go_at_call 100; refine HO.out.mono ?_; rintro e w2 ⟨A', c', rfl, hso, hb⟩)
  go_ret
  exact ⟨A', c', rfl, hso, hb⟩

theorem trimZ_cons (a : Int) (ys : List Int) : trimZ (a :: ys) = if a = 0 ∧ trimZ ys = [] then [] else a :: trimZ ys := by
  unfold trimZ
  rw [List.reverse_cons, List.dropWhile_append]
  by_cases h : (ys.reverse.dropWhile (· == 0)).isEmpty
  · rw [if_pos h]
    rw [List.isEmpty_iff] at h
    by_cases ha : a = 0
    · rw [if_pos ⟨ha, by rw [h]; rfl⟩, ha]; rfl
    · rw [if_neg (fun hc => ha hc.1), List.dropWhile_cons_of_neg (by simpa using ha), h]; rfl
  · rw [if_neg h, if_neg (fun hc => h (by simpa using hc.2)), List.reverse_append]; rfl

theorem trimZ_len (xs : List Int) : (trimZ xs).length ≤ xs.length := by
  induction xs with
  | nil => simp [trimZ]
  | cons a ys ih => rw [trimZ_cons]; split <;> simp; omega

def outB (lo hi n : Int) : Bool := !withinB n lo hi

def allW (xs : List Int) (lo hi : Int) : Bool := !xs.any (outB lo hi)

theorem impl_allWithin (A : Option Addr) (c : Nat) (xs : List Int) (lo hi : Int) (w : World) (h : Sl eInt w (Old w) A c xs) :
    Calls Try.prog 150 #[.slice A xs.length c, .int .i64 lo, .int .i64 hi] w fun e w' => e = .returned (.bool (allW xs lo hi)) ∧ w = w' := by
  have hlen := h.len
  have H := Lib.hid h; clear h
  unfold allW
  go_enter Try.func150, Try.ntmps150
  go_wp2
  go_loop [8, 11] (fun _ i => ∃ k : Nat, k ≤ xs.length ∧ i = .int .i64 k ∧ Hid ((xs.take k).any (outB lo hi) = false)) (fun _ i => xs.length - (intOf i).toNat)
  case atStart => exact ⟨0, Nat.zero_le _, rfl, rfl⟩
  case round =>
    obtain ⟨k, hk, rfl, HN⟩ := hrel
    by_cases hlt : k < xs.length
    · have hltz : (k : Int) < (xs.length : Int) := by omega
      obtain ⟨b, off, es, rfl, hb, ⟨rfl, _⟩, hc⟩ := H.out.at1 rfl hlt
      have d0 : w.cell? ⟨b, off + k, none⟩ = some (.int .i64 xs[k]) := hc _ rfl
      clear hc
      have HT : Hid (outB lo hi xs[k] = true → xs.any (outB lo hi) = true) := fun e => any_hit hlt e
      have HS : Hid (outB lo hi xs[k] = false → (xs.take (k + 1)).any (outB lo hi) = false) := fun e => any_step hlt HN.out e
      generalize xs[k] = y at d0 HT HS
      cases q1 : withinB y lo hi
      · go_wp2_with (go_at_call 112; refine (impl_within _ _ _ _).mono ?_; rintro e w' ⟨rfl, rfl⟩; rw [q1])
        go_ret
        exact ⟨by rw [HT.out (by unfold outB; rw [q1]; rfl)]; rfl, rfl⟩
      · go_wp2_with (go_at_call 112; refine (impl_within _ _ _ _).mono ?_; rintro e w' ⟨rfl, rfl⟩; rw [q1])
        go_round
        case rel => exact ⟨k + 1, by omega, by go_num, HS.out (by unfold outB; rw [q1]; rfl)⟩
        case measure => simp [intOf]; omega
    · have hltz : ¬ (k : Int) < (xs.length : Int) := by omega
      obtain rfl : k = xs.length := by omega
      go_wp2
      go_ret
      have hn := HN.out
      rw [List.take_length] at hn
      exact ⟨ret_bool (by rw [hn]; rfl), rfl⟩

theorem left_ok {l : Int} {n : Nat} (h : ¬ left l n < 0) : left l n = l - (n : Int) ∧ (n : Int) ≤ l := by
  unfold left at *; split at h <;> simp_all <;> omega

def noNaN (_ : Int) : Bool := false

def cmpI (x y : Int) : Int := if x < y then -1 else if y < x then 1 else 0

def cmpL : List Int → List Int → Int
  | [], [] => 0
  | [], _ :: _ => -1
  | _ :: _, [] => 1
  | x :: xs, y :: ys => if x < y then -1 else if y < x then 1 else cmpL xs ys

theorem cmpL_step {a b : List Int} {k : Nat} (ha : k < a.length) (hb : k < b.length) : cmpL (a.drop k) (b.drop k) = if a[k] < b[k] then -1 else if b[k] < a[k] then 1 else cmpL (a.drop (k + 1)) (b.drop (k + 1)) := by
  rw [List.drop_eq_getElem_cons ha, List.drop_eq_getElem_cons hb, cmpL]

theorem cmpL_end (a b : List Int) (k : Nat) (h : a.length ≤ k ∨ b.length ≤ k) (ha : k ≤ a.length) (hb : k ≤ b.length) : cmpL (a.drop k) (b.drop k) = if a.length < b.length then -1 else if b.length < a.length then 1 else 0 := by
  by_cases h1 : k < a.length
  · rw [show b.drop k = [] from List.drop_of_length_le (by omega), List.drop_eq_getElem_cons h1, cmpL, if_neg (by omega), if_pos (by omega)]
  · by_cases h2 : k < b.length
    · rw [show a.drop k = [] from List.drop_of_length_le (by omega), List.drop_eq_getElem_cons h2, cmpL, if_pos (by omega)]
    · rw [List.drop_of_length_le (by omega), List.drop_of_length_le (by omega), cmpL, if_neg (by omega), if_neg (by omega)]

theorem rg_step {p : Nat → Bool} {k : Nat} (h : (List.range k).any p = false) (hk : p k = false) : (List.range (k + 1)).any p = false := by
  rw [List.range_succ, List.any_append, h]; simp [hk]

theorem rg_hit {p : Nat → Bool} {k n : Nat} (hk : k < n) (h : p k = true) : (List.range n).any p = true :=
  List.any_eq_true.2 ⟨k, List.mem_range.2 hk, h⟩

def validMR (m : tMulti) (r : tMultiRule) : Bool :=
  withinB r.1 0 (m.2.2.1 - 1) && withinB r.2.2.2.2 0 (m.2.2.1 - 1) && ((r.2.1.length : Int) == m.1) && ((r.2.2.1.length : Int) == m.1) && ((r.2.2.2.1.length : Int) == m.1) && allW r.2.1 0 (m.2.1 - 1) && allW r.2.2.1 0 (m.2.1 - 1) && allW r.2.2.2.1 (-1) 1

def cmpMR (a b : tMultiRule) : Int := if a.1 = b.1 then cmpL a.2.1 b.2.1 else if a.1 < b.1 then -1 else 1

def beforeMR (a b : tMultiRule) : Bool := decide (cmpMR a b < 0)

def badMR (m : tMulti) (k : Nat) : Bool := !validMR m (m.2.2.2[k]?.getD default) || (decide (0 < k) && !beforeMR (m.2.2.2[k - 1]?.getD default) (m.2.2.2[k]?.getD default))

def validMulti (m : tMulti) : Bool :=
  withinB m.1 2 3 && withinB m.2.1 2 3 && withinB m.2.2.1 1 16 && decide ((m.2.2.2.length : Int) ≤ 60) && !(List.range m.2.2.2.length).any (badMR m)

theorem outB_eq (lo hi x : Int) : outB lo hi x = !withinB x lo hi := by
  unfold outB withinB; grind

def rowB (xs : List Int) (t lo hi : Int) : Bool := ((xs.length : Int) == t) && allW xs lo hi

set_option maxRecDepth 100000 in
set_option maxHeartbeats 4000000 in
theorem cmp_isNaN (a0 : Int) (w : World)  :
    Calls Try.prog 228 #[.int .i64 a0] w fun e w' => e = .returned (.bool (noNaN a0)) ∧ w = w' := by
  have HH1 := Held.start Nob w
  refine enter (n := 6) Try.func228 rfl rfl rfl fun a_2 HE3 => ?_
  refine wp_seq ?_
  refine rg ?_
  refine pl_x HE3 HH1 (wt0 rfl) (x_assign rfl) rfl rfl fun a_4 HE5 => ?_
  refine wpList_nil ?_
  clear a_2 HE3
  refine nrm ?_
  refine wp_seq ?_
  refine rg ?_
  refine pl_x HE5 HH1 (wt0 rfl) (x_move rfl) rfl rfl fun a_6 HE7 => ?_
  refine pl_x HE7 HH1 (wt0 rfl) (x_move rfl) rfl rfl fun a_8 HE9 => ?_
  refine pl_x HE9 HH1 (wt0 rfl) (x_neq rfl rfl) rfl rfl fun a_10 HE11 => ?_
  refine pl_x HE11 HH1 (wt0 rfl) (x_assign rfl) rfl rfl fun a_12 HE13 => ?_
  refine wpList_nil ?_
  clear a_4 HE5 a_6 HE7 a_8 HE9 a_10 HE11
  refine nrm ?_
  refine wp_ret ?_
  refine ret1 HE13 rfl (rv_tmp rfl) ?_
  have hF : (noNaN a0) = (a0 != a0) := by
    first | rfl | (simp [noNaN]; done) | (simp [noNaN]; omega) | grind [noNaN]
  exact ⟨by rw [hF] <;> rfl, rfl⟩

set_option maxRecDepth 100000 in
set_option maxHeartbeats 4000000 in
theorem cmp_Compare (a0 : Int) (a1 : Int) (w : World)  :
    Calls Try.prog 250 #[.int .i64 a0, .int .i64 a1] w fun e w' => e = .returned (.int .i64 (cmpI a0 a1)) ∧ w = w' := by
  have HH1 := Held.start Nob w
  refine enter (n := 20) Try.func250 rfl rfl rfl fun a_2 HE3 => ?_
  refine wp_seq ?_
  refine rg ?_
  refine pl_x HE3 HH1 (wt0 rfl) (x_assign rfl) rfl rfl fun a_4 HE5 => ?_
  refine wpList_nil ?_
  clear a_2 HE3
  refine nrm ?_
  refine wp_seq ?_
  refine rg ?_
  refine pl_x HE5 HH1 (wt0 rfl) (x_move rfl) rfl rfl fun a_6 HE7 => ?_
  refine pl fun K_8 hK9 => ?_
  refine st_call HE7 (wt0 rfl) rfl rfl rfl en_228 rfl rfl (cmp_isNaN a0 _ ) fun e w' hr => ?_
  obtain ⟨rfl, rfl⟩ := hr
  refine ⟨_, rfl, fun a_10 HE11 => hK9 _ _ ?_⟩
  refine pl_x HE11 HH1 (wt0 rfl) (x_assign rfl) rfl rfl fun a_12 HE13 => ?_
  refine wpList_nil ?_
  clear a_4 HE5 a_6 HE7 a_10 HE11 hK9 K_8
  refine nrm ?_
  refine wp_seq ?_
  refine rg ?_
  refine pl_x HE13 HH1 (wt0 rfl) (x_move rfl) rfl rfl fun a_14 HE15 => ?_
  refine pl fun K_16 hK17 => ?_
  refine st_call HE15 (wt0 rfl) rfl rfl rfl en_228 rfl rfl (cmp_isNaN a1 _ ) fun e w' hr => ?_
  obtain ⟨rfl, rfl⟩ := hr
  refine ⟨_, rfl, fun a_18 HE19 => hK17 _ _ ?_⟩
  refine pl_x HE19 HH1 (wt0 rfl) (x_assign rfl) rfl rfl fun a_20 HE21 => ?_
  refine wpList_nil ?_
  clear a_12 HE13 a_14 HE15 a_18 HE19 hK17 K_16
  refine nrm ?_
  refine wp_seq ?_
  refine wp_seq ?_
  refine rg ?_
  refine pl_x HE21 HH1 (wt0 rfl) (x_move rfl) rfl rfl fun a_22 HE23 => ?_
  refine wpList_nil ?_
  clear a_20 HE21
  refine nrm ?_
  refine cndF HE23 rfl rfl ?_
  refine wp_skip ?_
  refine nrm ?_
  refine wp_seq ?_
  refine wp_seq ?_
  refine rg ?_
  refine pl_x HE23 HH1 (wt0 rfl) (x_move rfl) rfl rfl fun a_24 HE25 => ?_
  refine wpList_nil ?_
  clear a_22 HE23
  refine nrm ?_
  refine cndF HE25 rfl rfl ?_
  refine wp_skip ?_
  refine nrm ?_
  refine wp_seq ?_
  refine wp_seq ?_
  refine rg ?_
  refine pl_x HE25 HH1 (wt0 rfl) (x_move rfl) rfl rfl fun a_26 HE27 => ?_
  refine pl_x HE27 HH1 (wt0 rfl) (x_move rfl) rfl rfl fun a_28 HE29 => ?_
  refine pl_x HE29 HH1 (wt0 rfl) (x_lss rfl rfl) rfl rfl fun a_30 HE31 => ?_
  refine wpList_nil ?_
  clear a_24 HE25 a_26 HE27 a_28 HE29
  refine nrm ?_
  refine cnd_d HE31 rfl (fun hc23 => ?_) (fun hc23 => ?_)
  · refine wp_seq ?_
    refine rg ?_
    refine pl_x HE31 HH1 (wt0 rfl) (x_assign rfl) rfl rfl fun a_32 HE33 => ?_
    refine wpList_nil ?_
    clear a_30 HE31
    refine nrm ?_
    refine wp_ret ?_
    refine (thn_ret ?_)
    refine ret1 HE33 rfl (rv_tmp rfl) ?_
    have hF : (cmpI a0 a1) = -1 := by
      first | (unfold cmpI; rw [if_pos (by omega)]; done) | (unfold cmpI; rw [if_neg (by omega), if_pos (by omega)]; done) | (unfold cmpI; rw [if_neg (by omega), if_neg (by omega)])
    exact ⟨by rw [hF] <;> rfl, rfl⟩
  · refine wp_skip ?_
    refine nrm ?_
    refine wp_seq ?_
    refine wp_seq ?_
    refine rg ?_
    refine pl_x HE31 HH1 (wt0 rfl) (x_move rfl) rfl rfl fun a_34 HE35 => ?_
    refine pl_x HE35 HH1 (wt0 rfl) (x_move rfl) rfl rfl fun a_36 HE37 => ?_
    refine pl_x HE37 HH1 (wt0 rfl) (x_gtr rfl rfl) rfl rfl fun a_38 HE39 => ?_
    refine wpList_nil ?_
    clear a_30 HE31 a_34 HE35 a_36 HE37
    refine nrm ?_
    refine cnd_d HE39 rfl (fun hc24 => ?_) (fun hc24 => ?_)
    · refine wp_seq ?_
      refine rg ?_
      refine pl_x HE39 HH1 (wt0 rfl) (x_assign rfl) rfl rfl fun a_40 HE41 => ?_
      refine wpList_nil ?_
      clear a_38 HE39
      refine nrm ?_
      refine wp_ret ?_
      refine (thn_ret ?_)
      refine ret1 HE41 rfl (rv_tmp rfl) ?_
      have hF : (cmpI a0 a1) = 1 := by
        first | (unfold cmpI; rw [if_pos (by omega)]; done) | (unfold cmpI; rw [if_neg (by omega), if_pos (by omega)]; done) | (unfold cmpI; rw [if_neg (by omega), if_neg (by omega)])
      exact ⟨by rw [hF] <;> rfl, rfl⟩
    · refine wp_skip ?_
      refine nrm ?_
      refine wp_seq ?_
      refine rg ?_
      refine pl_x HE39 HH1 (wt0 rfl) (x_assign rfl) rfl rfl fun a_42 HE43 => ?_
      refine wpList_nil ?_
      clear a_38 HE39
      refine nrm ?_
      refine wp_ret ?_
      refine ret1 HE43 rfl (rv_tmp rfl) ?_
      have hF : (cmpI a0 a1) = 0 := by
        first | (unfold cmpI; rw [if_pos (by omega)]; done) | (unfold cmpI; rw [if_neg (by omega), if_pos (by omega)]; done) | (unfold cmpI; rw [if_neg (by omega), if_neg (by omega)])
      exact ⟨by rw [hF] <;> rfl, rfl⟩

set_option maxRecDepth 100000 in
set_option maxHeartbeats 4000000 in
theorem slices_Compare (A0 : Option Addr) (c0 : Nat) (a0 : (List Int)) (A1 : Option Addr) (c1 : Nat) (a1 : (List Int)) (w : World) (h0 : Sl eInt w (Old w) A0 c0 a0) (h1 : Sl eInt w (Old w) A1 c1 a1) :
    Calls Try.prog 236 #[.slice A0 a0.length c0, .slice A1 a1.length c1] w fun e w' => e = .returned (.int .i64 (cmpL a0 a1)) ∧ Below w.heap.size w w' := by
  have l0 := h0.len
  have l1 := h1.len
  have HH1 := Held.start Nob w
  refine enter (n := 36) Try.func236 rfl rfl rfl fun a_2 HE3 => ?_
  refine wp_seq ?_
  refine rg ?_
  refine pl_x HE3 HH1 (wt0 rfl) (x_assign rfl) rfl rfl fun a_4 HE5 => ?_
  refine wpList_nil ?_
  clear a_2 HE3
  refine nrm ?_
  refine wp_seq ?_
  refine wp_seq ?_
  refine rg ?_
  refine pl_x HE5 HH1 (wt0 rfl) (x_move rfl) rfl rfl fun a_6 HE7 => ?_
  refine pl_x HE7 HH1 (wt0 rfl) (x_len Try.underlying31 rfl) rfl rfl fun a_8 HE9 => ?_
  refine pl_x HE9 HH1 (wt0 rfl) (x_move rfl) rfl rfl fun a_10 HE11 => ?_
  refine wpList_nil ?_
  clear a_4 HE5 a_6 HE7 a_8 HE9
  refine nrm ?_
  refine wp_block ?_
  refine lp (fun m a w' => ∃ (k : Nat), m = a0.length - k ∧ Env 36 [(11, .int .i64 (k : Int)), (0, .slice A0 (a0.length) c0), (1, .slice A1 (a1.length) c1), (9, .slice A0 (a0.length) c0), (10, .int .i64 ((a0.length : Int)))] a ∧ Held Nob w [] w' ∧ (k ≤ a0.length) ∧ (k ≤ a1.length) ∧ (cmpL a0 a1 = cmpL (a0.drop k) (a1.drop k))) (a0.length - (0)) ?_ ?_
  · exact ⟨0, rfl, HE11.sub ⟨(lkI rfl (by first | rfl | omega | (simp []; done))), rfl, rfl, rfl, rfl, trivial⟩, (HH1.sel [] (by decide) rfl), (by first | omega | assumption | (simp; done) | simp_all), (by first | omega | assumption | (simp; done) | simp_all), (by rfl)⟩
  · rintro m a_12 w' ⟨k, rfl, HE13, HH14, p21_0, p21_1, p21_2⟩
    refine wp_seq ?_
    refine rg ?_
    refine pl_x HE13 HH14 (wt0 rfl) (x_lss rfl rfl) rfl rfl fun a_15 HE16 => ?_
    refine wpList_nil ?_
    clear a_10 HE11 HH1 a_12 HE13
    refine nrm ?_
    refine wp_seq ?_
    refine cnd_d HE16 rfl (fun hc22 => ?_) (fun hc22 => ?_)
    · refine wp_skip ?_
      refine nrm ?_
      refine wp_seq ?_
      refine wp_block ?_
      refine wp_seq ?_
      refine rg ?_
      refine pl_x HE16 HH14 (wt0 rfl) (x_move rfl) rfl rfl fun a_17 HE18 => ?_
      have ke23 : k < a0.length := by omega
      obtain ⟨be23, fe23, ese23, Ae23, Re23, De23⟩ := el_old h0 ke23
      obtain ⟨e23, xe23⟩ : ∃ x, x = a0[k] := ⟨_, rfl⟩
      rw [← xe23] at Re23
      have Qe23 := Re23
      obtain ⟨rfl, ie23⟩ := Re23
      have je23 := ie23; unfold I64 at je23
      refine pl_x HE18 HH14 (wt0 rfl) (x_indexAddr ts_31 rfl rfl Ae23 rfl ke23) rfl rfl fun a_19 HE20 => ?_
      refine pl_x HE20 HH14 (wt0 rfl) (x_load1 tv_2 rfl (c_old (De23 0 _ rfl))) rfl rfl fun a_21 HE22 => ?_
      refine pl_x HE22 HH14 (wt0 rfl) (x_assign rfl) rfl rfl fun a_23 HE24 => ?_
      refine pl_x HE24 HH14 (wt0 rfl) (x_assign rfl) rfl rfl fun a_25 HE26 => ?_
      refine wpList_nil ?_
      clear a_15 HE16 a_17 HE18 a_19 HE20 a_21 HE22 a_23 HE24
      refine nrm ?_
      refine wp_seq ?_
      refine wp_seq ?_
      refine rg ?_
      refine pl_x HE26 HH14 (wt0 rfl) (x_move rfl) rfl rfl fun a_27 HE28 => ?_
      refine pl_x HE28 HH14 (wt0 rfl) (x_move rfl) rfl rfl fun a_29 HE30 => ?_
      refine pl_x HE30 HH14 (wt0 rfl) (x_len Try.underlying31 rfl) rfl rfl fun a_31 HE32 => ?_
      refine pl_x HE32 HH14 (wt0 rfl) (x_geq rfl rfl) rfl rfl fun a_33 HE34 => ?_
      refine wpList_nil ?_
      clear a_25 HE26 a_27 HE28 a_29 HE30 a_31 HE32
      refine nrm ?_
      refine cnd_d HE34 rfl (fun hc24 => ?_) (fun hc24 => ?_)
      · refine wp_seq ?_
        refine rg ?_
        refine pl_x HE34 HH14 (wt0 rfl) (x_assign rfl) rfl rfl fun a_35 HE36 => ?_
        refine wpList_nil ?_
        clear a_33 HE34
        refine nrm ?_
        refine wp_ret ?_
        refine (thn_ret (blk_ret (thn_ret (thn_ret (blk_ret (thn_ret ?_))))))
        refine ret1 HE36 rfl (rv_tmp rfl) ?_
        have hF : (cmpL a0 a1) = 1 := by
          rw [p21_2]; first | (rw [cmpL_end a0 a1 k (by omega) (by omega) (by omega)]; grind) | (rw [cmpL_step (by omega) (by omega)]; grind [cmpI])
        exact ⟨by rw [hF] <;> rfl, HH14.below⟩
      · refine wp_skip ?_
        refine nrm ?_
        refine wp_seq ?_
        refine rg ?_
        refine pl_x HE34 HH14 (wt0 rfl) (x_move rfl) rfl rfl fun a_37 HE38 => ?_
        refine pl_x HE38 HH14 (wt0 rfl) (x_move rfl) rfl rfl fun a_39 HE40 => ?_
        have ke25 : k < a1.length := by omega
        obtain ⟨be25, fe25, ese25, Ae25, Re25, De25⟩ := el_old h1 ke25
        obtain ⟨e25, xe25⟩ : ∃ x, x = a1[k] := ⟨_, rfl⟩
        rw [← xe25] at Re25
        have Qe25 := Re25
        obtain ⟨rfl, ie25⟩ := Re25
        have je25 := ie25; unfold I64 at je25
        refine pl_x HE40 HH14 (wt0 rfl) (x_indexAddr ts_31 rfl rfl Ae25 rfl ke25) rfl rfl fun a_41 HE42 => ?_
        refine pl_x HE42 HH14 (wt0 rfl) (x_load1 tv_2 rfl (c_old (De25 0 _ rfl))) rfl rfl fun a_43 HE44 => ?_
        refine pl_x HE44 HH14 (wt0 rfl) (x_assign rfl) rfl rfl fun a_45 HE46 => ?_
        refine wpList_nil ?_
        clear a_33 HE34 a_37 HE38 a_39 HE40 a_41 HE42 a_43 HE44
        refine nrm ?_
        refine wp_seq ?_
        refine rg ?_
        refine pl_x HE46 HH14 (wt0 rfl) (x_move rfl) rfl rfl fun a_47 HE48 => ?_
        refine pl_x HE48 HH14 (wt0 rfl) (x_move rfl) rfl rfl fun a_49 HE50 => ?_
        refine pl fun K_51 hK52 => ?_
        refine st_call HE50 (wt0 rfl) rfl rfl rfl en_250 rfl rfl (cmp_Compare e23 e25 _ ) fun e w' hr => ?_
        obtain ⟨rfl, rfl⟩ := hr
        refine ⟨_, rfl, fun a_53 HE54 => hK52 _ _ ?_⟩
        refine pl_x HE54 HH14 (wt0 rfl) (x_assign rfl) rfl rfl fun a_55 HE56 => ?_
        refine wpList_nil ?_
        clear a_45 HE46 a_47 HE48 a_49 HE50 a_53 HE54 hK52 K_51
        refine nrm ?_
        refine wp_seq ?_
        refine rg ?_
        refine pl_x HE56 HH14 (wt0 rfl) (x_move rfl) rfl rfl fun a_57 HE58 => ?_
        refine pl_x HE58 HH14 (wt0 rfl) (x_neq rfl rfl) rfl rfl fun a_59 HE60 => ?_
        refine wpList_nil ?_
        clear a_55 HE56 a_57 HE58
        refine nrm ?_
        refine cnd_ne HE60 rfl (fun hc27 => ?_) (fun hc27 => ?_)
        · refine wp_seq ?_
          refine rg ?_
          refine pl_x HE60 HH14 (wt0 rfl) (x_move rfl) rfl rfl fun a_61 HE62 => ?_
          refine pl_x HE62 HH14 (wt0 rfl) (x_assign rfl) rfl rfl fun a_63 HE64 => ?_
          refine wpList_nil ?_
          clear a_59 HE60 a_61 HE62
          refine nrm ?_
          refine wp_ret ?_
          refine (blk_ret (thn_ret (thn_ret (blk_ret (thn_ret ?_)))))
          refine ret1 HE64 rfl (rv_tmp rfl) ?_
          have hF : (cmpL a0 a1) = (cmpI e23 e25) := by
            rw [p21_2]; first | (rw [cmpL_end a0 a1 k (by omega) (by omega) (by omega)]; grind) | (rw [cmpL_step (by omega) (by omega)]; grind [cmpI])
          exact ⟨by rw [hF] <;> rfl, HH14.below⟩
        · refine wp_skip ?_
          refine blk_n ?_
          refine nrm ?_
          refine rg ?_
          refine pl_x HE60 HH14 (wt0 rfl) (x_add rfl rfl (by exact ⟨by omega, by omega⟩)) rfl rfl fun a_65 HE66 => ?_
          refine pl_x HE66 HH14 (wt0 rfl) (x_move rfl) rfl rfl fun a_67 HE68 => ?_
          refine wpList_nil ?_
          clear a_59 HE60 a_65 HE66
          exact nrm ⟨a0.length - (k + 1), (by omega), k + 1, rfl, HE68.sub ⟨(lkI rfl (by first | rfl | omega | (simp [p21_0, p21_1, p21_2, hc22, xe23, hc24, xe25, hc27]; done))), rfl, rfl, rfl, rfl, trivial⟩, (HH14.sel [] (by decide) rfl), (by first | omega | assumption | (simp; done) | simp_all), (by first | omega | assumption | (simp; done) | simp_all), (by rw [p21_2, cmpL_step (by omega) (by omega)]; grind [cmpI])⟩
    · refine wp_exit ?_
      refine (thn_exit (thn_exit (blk_hit ?_)))
      refine nrm ?_
      refine wp_seq ?_
      refine wp_seq ?_
      refine rg ?_
      refine pl_x HE16 HH14 (wt0 rfl) (x_move rfl) rfl rfl fun a_69 HE70 => ?_
      refine pl_x HE70 HH14 (wt0 rfl) (x_len Try.underlying31 rfl) rfl rfl fun a_71 HE72 => ?_
      refine pl_x HE72 HH14 (wt0 rfl) (x_move rfl) rfl rfl fun a_73 HE74 => ?_
      refine pl_x HE74 HH14 (wt0 rfl) (x_len Try.underlying31 rfl) rfl rfl fun a_75 HE76 => ?_
      refine pl_x HE76 HH14 (wt0 rfl) (x_lss rfl rfl) rfl rfl fun a_77 HE78 => ?_
      refine wpList_nil ?_
      clear a_15 HE16 a_69 HE70 a_71 HE72 a_73 HE74 a_75 HE76
      refine nrm ?_
      refine cnd_d HE78 rfl (fun hc28 => ?_) (fun hc28 => ?_)
      · refine wp_seq ?_
        refine rg ?_
        refine pl_x HE78 HH14 (wt0 rfl) (x_assign rfl) rfl rfl fun a_79 HE80 => ?_
        refine wpList_nil ?_
        clear a_77 HE78
        refine nrm ?_
        refine wp_ret ?_
        refine (thn_ret ?_)
        refine ret1 HE80 rfl (rv_tmp rfl) ?_
        have hF : (cmpL a0 a1) = -1 := by
          rw [p21_2]; first | (rw [cmpL_end a0 a1 k (by omega) (by omega) (by omega)]; grind) | (rw [cmpL_step (by omega) (by omega)]; grind [cmpI])
        exact ⟨by rw [hF] <;> rfl, HH14.below⟩
      · refine wp_skip ?_
        refine nrm ?_
        refine wp_seq ?_
        refine rg ?_
        refine pl_x HE78 HH14 (wt0 rfl) (x_assign rfl) rfl rfl fun a_81 HE82 => ?_
        refine wpList_nil ?_
        clear a_77 HE78
        refine nrm ?_
        refine wp_ret ?_
        refine ret1 HE82 rfl (rv_tmp rfl) ?_
        have hF : (cmpL a0 a1) = 0 := by
          rw [p21_2]; first | (rw [cmpL_end a0 a1 k (by omega) (by omega) (by omega)]; grind) | (rw [cmpL_step (by omega) (by omega)]; grind [cmpI])
        exact ⟨by rw [hF] <;> rfl, HH14.below⟩

set_option maxRecDepth 100000 in
set_option maxHeartbeats 4000000 in
theorem spec_l01Compare (A0 : Option Addr) (c0 : Nat) (a0 : (List Int)) (A1 : Option Addr) (c1 : Nat) (a1 : (List Int)) (w : World) (h0 : Sl eInt w (Old w) A0 c0 a0) (h1 : Sl eInt w (Old w) A1 c1 a1) :
    Calls Try.prog 235 #[.slice A0 a0.length c0, .slice A1 a1.length c1] w fun e w' => e = .returned (.int .i64 (cmpL a0 a1)) ∧ Below w.heap.size w w' := by
  have l0 := h0.len
  have l1 := h1.len
  have HH1 := Held.start Nob w
  refine enter (n := 46) Try.func235 rfl rfl rfl fun a_2 HE3 => ?_
  refine wp_seq ?_
  refine rg ?_
  refine pl_x HE3 HH1 (wt0 rfl) (x_assign rfl) rfl rfl fun a_4 HE5 => ?_
  refine wpList_nil ?_
  clear a_2 HE3
  refine nrm ?_
  refine wp_seq ?_
  refine wp_seq ?_
  refine rg ?_
  refine pl_x HE5 HH1 (wt0 rfl) (x_assign rfl) rfl rfl fun a_6 HE7 => ?_
  refine wpList_nil ?_
  clear a_4 HE5
  refine nrm ?_
  refine wp_block ?_
  refine lp (fun m a w' => ∃ (k : Nat), m = a0.length - k ∧ Env 46 [(5, .int .i64 (k : Int)), (0, .slice A0 (a0.length) c0), (1, .slice A1 (a1.length) c1)] a ∧ Held Nob w [] w' ∧ (k ≤ a0.length) ∧ (k ≤ a1.length) ∧ (cmpL a0 a1 = cmpL (a0.drop k) (a1.drop k))) (a0.length - (0)) ?_ ?_
  · exact ⟨0, rfl, HE7.sub ⟨(lkI rfl (by first | rfl | omega | (simp []; done))), rfl, rfl, trivial⟩, (HH1.sel [] (by decide) rfl), (by first | omega | assumption | (simp; done) | simp_all), (by first | omega | assumption | (simp; done) | simp_all), (by rfl)⟩
  · rintro m a_8 w' ⟨k, rfl, HE9, HH10, p21_0, p21_1, p21_2⟩
    refine wp_seq ?_
    refine wp_seq ?_
    refine rg ?_
    refine pl_x HE9 HH10 (wt0 rfl) (x_move rfl) rfl rfl fun a_11 HE12 => ?_
    refine pl_x HE12 HH10 (wt0 rfl) (x_move rfl) rfl rfl fun a_13 HE14 => ?_
    refine pl_x HE14 HH10 (wt0 rfl) (x_len Try.underlying31 rfl) rfl rfl fun a_15 HE16 => ?_
    refine pl_x HE16 HH10 (wt0 rfl) (x_lss rfl rfl) rfl rfl fun a_17 HE18 => ?_
    refine pl_x HE18 HH10 (wt0 rfl) (x_move rfl) rfl rfl fun a_19 HE20 => ?_
    by_cases hc22 : (k : Int) < (a0.length : Int)
    · refine pl_x HE20 HH10 (wtT HE20 rfl rfl rfl (decide_eq_true hc22)) (x_move rfl) rfl rfl fun a_21 HE22 => ?_
      refine pl_x HE22 HH10 (wtT HE22 rfl rfl rfl (decide_eq_true hc22)) (x_move rfl) rfl rfl fun a_23 HE24 => ?_
      refine pl_x HE24 HH10 (wtT HE24 rfl rfl rfl (decide_eq_true hc22)) (x_len Try.underlying31 rfl) rfl rfl fun a_25 HE26 => ?_
      refine pl_x HE26 HH10 (wtT HE26 rfl rfl rfl (decide_eq_true hc22)) (x_lss rfl rfl) rfl rfl fun a_27 HE28 => ?_
      refine pl_x HE28 HH10 (wt0 rfl) (x_pickT rfl (decide_eq_true hc22) rfl) rfl rfl fun a_29 HE30 => ?_
      refine wpList_nil ?_
      clear a_6 HE7 HH1 a_8 HE9 a_11 HE12 a_13 HE14 a_15 HE16 a_17 HE18 a_19 HE20 a_21 HE22 a_23 HE24 a_25 HE26 a_27 HE28
      refine nrm ?_
      refine cnd_d HE30 rfl (fun hc23 => ?_) (fun hc23 => ?_)
      · refine wp_skip ?_
        refine nrm ?_
        refine wp_seq ?_
        refine wp_block ?_
        refine wp_seq ?_
        refine wp_seq ?_
        refine dr_start (Held Nob w []) 9 #[false, false, false, false, false, false, false, false, false] hmix rfl rfl HH10 (fun _ h => h.sel [] (by decide) rfl) fun w' HH31 => ?_
        have HS32 := HH31
        refine dr_take (i := 0) (ls' := #[true, false, false, false, false, false, false, false, false]) HE30 HS32 rfl (by kernel_rfl) (by kernel_rfl) (by kernel_rfl) (fun _ _ _ h => h) rfl (wt0 rfl) (x_move rfl) rfl rfl fun a_33 HE34 => ?_
        refine dr_take (i := 1) (ls' := #[true, true, false, false, false, false, false, false, false]) HE34 HS32 rfl (by kernel_rfl) (by kernel_rfl) (by kernel_rfl) (fun _ _ _ h => h) rfl (wt0 rfl) (x_move rfl) rfl rfl fun a_35 HE36 => ?_
        have ke24 : k < a0.length := by omega
        obtain ⟨be24, fe24, ese24, Ae24, Re24, De24⟩ := el_old h0 ke24
        obtain ⟨e24, xe24⟩ : ∃ x, x = a0[k] := ⟨_, rfl⟩
        rw [← xe24] at Re24
        have Qe24 := Re24
        obtain ⟨rfl, ie24⟩ := Re24
        have je24 := ie24; unfold I64 at je24
        refine dr_take (i := 2) (ls' := #[true, true, true, false, false, false, false, false, false]) HE36 HS32 rfl (by kernel_rfl) (by kernel_rfl) (by kernel_rfl) (fun _ _ _ h => h) rfl (wt0 rfl) (x_indexAddr ts_31 rfl rfl Ae24 rfl ke24) rfl rfl fun a_37 HE38 => ?_
        refine dr_take (i := 3) (ls' := #[true, true, true, true, false, false, false, false, false]) HE38 HS32 rfl (by kernel_rfl) (by kernel_rfl) (by kernel_rfl) (fun _ _ _ h => h) rfl (wt0 rfl) (x_load1 tv_2 rfl (c_old (De24 0 _ rfl))) rfl rfl fun a_39 HE40 => ?_
        refine dr_take (i := 4) (ls' := #[true, true, true, true, true, false, false, false, false]) HE40 HS32 rfl (by kernel_rfl) (by kernel_rfl) (by kernel_rfl) (fun _ _ _ h => h) rfl (wt0 rfl) (x_move rfl) rfl rfl fun a_41 HE42 => ?_
        refine dr_take (i := 5) (ls' := #[true, true, true, true, true, true, false, false, false]) HE42 HS32 rfl (by kernel_rfl) (by kernel_rfl) (by kernel_rfl) (fun _ _ _ h => h) rfl (wt0 rfl) (x_move rfl) rfl rfl fun a_43 HE44 => ?_
        have ke25 : k < a1.length := by omega
        obtain ⟨be25, fe25, ese25, Ae25, Re25, De25⟩ := el_old h1 ke25
        obtain ⟨e25, xe25⟩ : ∃ x, x = a1[k] := ⟨_, rfl⟩
        rw [← xe25] at Re25
        have Qe25 := Re25
        obtain ⟨rfl, ie25⟩ := Re25
        have je25 := ie25; unfold I64 at je25
        refine dr_take (i := 6) (ls' := #[true, true, true, true, true, true, true, false, false]) HE44 HS32 rfl (by kernel_rfl) (by kernel_rfl) (by kernel_rfl) (fun _ _ _ h => h) rfl (wt0 rfl) (x_indexAddr ts_31 rfl rfl Ae25 rfl ke25) rfl rfl fun a_45 HE46 => ?_
        refine dr_take (i := 7) (ls' := #[true, true, true, true, true, true, true, true, false]) HE46 HS32 rfl (by kernel_rfl) (by kernel_rfl) (by kernel_rfl) (fun _ _ _ h => h) rfl (wt0 rfl) (x_load1 tv_2 rfl (c_old (De25 0 _ rfl))) rfl rfl fun a_47 HE48 => ?_
        refine dr_take (i := 8) (ls' := #[true, true, true, true, true, true, true, true, true]) HE48 HS32 rfl (by kernel_rfl) (by kernel_rfl) (by kernel_rfl) (fun _ _ _ h => h) rfl (wt0 rfl) (x_lss rfl rfl) rfl rfl fun a_49 HE50 => ?_
        refine dr_done (by kernel_rfl) ?_
        clear HH10 a_29 HE30 a_33 HE34 a_35 HE36 a_37 HE38 a_39 HE40 a_41 HE42 a_43 HE44 a_45 HE46 a_47 HE48
        refine nrm ?_
        refine cnd_d HE50 rfl (fun hc26 => ?_) (fun hc26 => ?_)
        · refine wp_seq ?_
          refine rg ?_
          refine pl_x HE50 HH31 (wt0 rfl) (x_assign rfl) rfl rfl fun a_51 HE52 => ?_
          refine wpList_nil ?_
          clear a_49 HE50
          refine nrm ?_
          refine wp_ret ?_
          refine (thn_ret (blk_ret (thn_ret (thn_ret (blk_ret (thn_ret ?_))))))
          refine ret1 HE52 rfl (rv_tmp rfl) ?_
          have hF : (cmpL a0 a1) = -1 := by
            rw [p21_2]; first | (rw [cmpL_end a0 a1 k (by omega) (by omega) (by omega)]; grind) | (rw [cmpL_step (by omega) (by omega)]; grind [cmpI])
          exact ⟨by rw [hF] <;> rfl, HH31.below⟩
        · refine wp_skip ?_
          refine nrm ?_
          refine wp_seq ?_
          refine dr_start (Held Nob w []) 9 #[false, false, false, false, false, false, false, false, false] hmix rfl rfl HH31 (fun _ h => h.sel [] (by decide) rfl) fun w' HH53 => ?_
          have HS54 := HH53
          refine dr_take (i := 0) (ls' := #[true, false, false, false, false, false, false, false, false]) HE50 HS54 rfl (by kernel_rfl) (by kernel_rfl) (by kernel_rfl) (fun _ _ _ h => h) rfl (wt0 rfl) (x_move rfl) rfl rfl fun a_55 HE56 => ?_
          refine dr_take (i := 1) (ls' := #[true, true, false, false, false, false, false, false, false]) HE56 HS54 rfl (by kernel_rfl) (by kernel_rfl) (by kernel_rfl) (fun _ _ _ h => h) rfl (wt0 rfl) (x_move rfl) rfl rfl fun a_57 HE58 => ?_
          refine dr_take (i := 2) (ls' := #[true, true, true, false, false, false, false, false, false]) HE58 HS54 rfl (by kernel_rfl) (by kernel_rfl) (by kernel_rfl) (fun _ _ _ h => h) rfl (wt0 rfl) (x_indexAddr ts_31 rfl rfl Ae24 rfl ke24) rfl rfl fun a_59 HE60 => ?_
          refine dr_take (i := 3) (ls' := #[true, true, true, true, false, false, false, false, false]) HE60 HS54 rfl (by kernel_rfl) (by kernel_rfl) (by kernel_rfl) (fun _ _ _ h => h) rfl (wt0 rfl) (x_load1 tv_2 rfl (c_old (De24 0 _ rfl))) rfl rfl fun a_61 HE62 => ?_
          refine dr_take (i := 4) (ls' := #[true, true, true, true, true, false, false, false, false]) HE62 HS54 rfl (by kernel_rfl) (by kernel_rfl) (by kernel_rfl) (fun _ _ _ h => h) rfl (wt0 rfl) (x_move rfl) rfl rfl fun a_63 HE64 => ?_
          refine dr_take (i := 5) (ls' := #[true, true, true, true, true, true, false, false, false]) HE64 HS54 rfl (by kernel_rfl) (by kernel_rfl) (by kernel_rfl) (fun _ _ _ h => h) rfl (wt0 rfl) (x_move rfl) rfl rfl fun a_65 HE66 => ?_
          refine dr_take (i := 6) (ls' := #[true, true, true, true, true, true, true, false, false]) HE66 HS54 rfl (by kernel_rfl) (by kernel_rfl) (by kernel_rfl) (fun _ _ _ h => h) rfl (wt0 rfl) (x_indexAddr ts_31 rfl rfl Ae25 rfl ke25) rfl rfl fun a_67 HE68 => ?_
          refine dr_take (i := 7) (ls' := #[true, true, true, true, true, true, true, true, false]) HE68 HS54 rfl (by kernel_rfl) (by kernel_rfl) (by kernel_rfl) (fun _ _ _ h => h) rfl (wt0 rfl) (x_load1 tv_2 rfl (c_old (De25 0 _ rfl))) rfl rfl fun a_69 HE70 => ?_
          refine dr_take (i := 8) (ls' := #[true, true, true, true, true, true, true, true, true]) HE70 HS54 rfl (by kernel_rfl) (by kernel_rfl) (by kernel_rfl) (fun _ _ _ h => h) rfl (wt0 rfl) (x_gtr rfl rfl) rfl rfl fun a_71 HE72 => ?_
          refine dr_done (by kernel_rfl) ?_
          clear HH31 HS32 a_49 HE50 a_55 HE56 a_57 HE58 a_59 HE60 a_61 HE62 a_63 HE64 a_65 HE66 a_67 HE68 a_69 HE70
          refine nrm ?_
          refine cnd_d HE72 rfl (fun hc27 => ?_) (fun hc27 => ?_)
          · refine wp_seq ?_
            refine rg ?_
            refine pl_x HE72 HH53 (wt0 rfl) (x_assign rfl) rfl rfl fun a_73 HE74 => ?_
            refine wpList_nil ?_
            clear a_71 HE72
            refine nrm ?_
            refine wp_ret ?_
            refine (blk_ret (thn_ret (thn_ret (blk_ret (thn_ret ?_)))))
            refine ret1 HE74 rfl (rv_tmp rfl) ?_
            have hF : (cmpL a0 a1) = 1 := by
              rw [p21_2]; first | (rw [cmpL_end a0 a1 k (by omega) (by omega) (by omega)]; grind) | (rw [cmpL_step (by omega) (by omega)]; grind [cmpI])
            exact ⟨by rw [hF] <;> rfl, HH53.below⟩
          · refine wp_skip ?_
            refine blk_n ?_
            refine nrm ?_
            refine rg ?_
            refine pl_x HE72 HH53 (wt0 rfl) (x_move rfl) rfl rfl fun a_75 HE76 => ?_
            refine pl_x HE76 HH53 (wt0 rfl) (x_add rfl rfl (by exact ⟨by omega, by omega⟩)) rfl rfl fun a_77 HE78 => ?_
            refine pl_x HE78 HH53 (wt0 rfl) (x_assign rfl) rfl rfl fun a_79 HE80 => ?_
            refine wpList_nil ?_
            clear a_71 HE72 a_75 HE76 a_77 HE78
            exact nrm ⟨a0.length - (k + 1), (by omega), k + 1, rfl, HE80.sub ⟨(lkI rfl (by first | rfl | omega | (simp [p21_0, p21_1, p21_2, hc22, hc23, xe24, xe25, hc26, hc27]; done))), rfl, rfl, trivial⟩, (HH53.sel [] (by decide) rfl), (by first | omega | assumption | (simp; done) | simp_all), (by first | omega | assumption | (simp; done) | simp_all), (by rw [p21_2, cmpL_step (by omega) (by omega)]; grind [cmpI])⟩
      · refine wp_exit ?_
        refine (thn_exit (thn_exit (blk_hit ?_)))
        refine nrm ?_
        refine wp_seq ?_
        refine wp_seq ?_
        refine rg ?_
        refine pl_x HE30 HH10 (wt0 rfl) (x_move rfl) rfl rfl fun a_81 HE82 => ?_
        refine pl_x HE82 HH10 (wt0 rfl) (x_len Try.underlying31 rfl) rfl rfl fun a_83 HE84 => ?_
        refine pl_x HE84 HH10 (wt0 rfl) (x_move rfl) rfl rfl fun a_85 HE86 => ?_
        refine pl_x HE86 HH10 (wt0 rfl) (x_len Try.underlying31 rfl) rfl rfl fun a_87 HE88 => ?_
        refine pl_x HE88 HH10 (wt0 rfl) (x_lss rfl rfl) rfl rfl fun a_89 HE90 => ?_
        refine wpList_nil ?_
        clear a_29 HE30 a_81 HE82 a_83 HE84 a_85 HE86 a_87 HE88
        refine nrm ?_
        refine cnd_d HE90 rfl (fun hc28 => ?_) (fun hc28 => ?_)
        · refine wp_seq ?_
          refine rg ?_
          refine pl_x HE90 HH10 (wt0 rfl) (x_assign rfl) rfl rfl fun a_91 HE92 => ?_
          refine wpList_nil ?_
          clear a_89 HE90
          refine nrm ?_
          refine wp_ret ?_
          refine (thn_ret ?_)
          refine ret1 HE92 rfl (rv_tmp rfl) ?_
          have hF : (cmpL a0 a1) = -1 := by
            rw [p21_2]; first | (rw [cmpL_end a0 a1 k (by omega) (by omega) (by omega)]; grind) | (rw [cmpL_step (by omega) (by omega)]; grind [cmpI])
          exact ⟨by rw [hF] <;> rfl, HH10.below⟩
        · refine wp_skip ?_
          refine nrm ?_
          refine wp_seq ?_
          refine wp_seq ?_
          refine rg ?_
          refine pl_x HE90 HH10 (wt0 rfl) (x_move rfl) rfl rfl fun a_93 HE94 => ?_
          refine pl_x HE94 HH10 (wt0 rfl) (x_len Try.underlying31 rfl) rfl rfl fun a_95 HE96 => ?_
          refine pl_x HE96 HH10 (wt0 rfl) (x_move rfl) rfl rfl fun a_97 HE98 => ?_
          refine pl_x HE98 HH10 (wt0 rfl) (x_len Try.underlying31 rfl) rfl rfl fun a_99 HE100 => ?_
          refine pl_x HE100 HH10 (wt0 rfl) (x_gtr rfl rfl) rfl rfl fun a_101 HE102 => ?_
          refine wpList_nil ?_
          clear a_89 HE90 a_93 HE94 a_95 HE96 a_97 HE98 a_99 HE100
          refine nrm ?_
          refine cnd_d HE102 rfl (fun hc29 => ?_) (fun hc29 => ?_)
          · refine wp_seq ?_
            refine rg ?_
            refine pl_x HE102 HH10 (wt0 rfl) (x_assign rfl) rfl rfl fun a_103 HE104 => ?_
            refine wpList_nil ?_
            clear a_101 HE102
            refine nrm ?_
            refine wp_ret ?_
            refine (thn_ret ?_)
            refine ret1 HE104 rfl (rv_tmp rfl) ?_
            have hF : (cmpL a0 a1) = 1 := by
              rw [p21_2]; first | (rw [cmpL_end a0 a1 k (by omega) (by omega) (by omega)]; grind) | (rw [cmpL_step (by omega) (by omega)]; grind [cmpI])
            exact ⟨by rw [hF] <;> rfl, HH10.below⟩
          · refine wp_skip ?_
            refine nrm ?_
            refine wp_seq ?_
            refine rg ?_
            refine pl_x HE102 HH10 (wt0 rfl) (x_assign rfl) rfl rfl fun a_105 HE106 => ?_
            refine wpList_nil ?_
            clear a_101 HE102
            refine nrm ?_
            refine wp_ret ?_
            refine ret1 HE106 rfl (rv_tmp rfl) ?_
            have hF : (cmpL a0 a1) = 0 := by
              rw [p21_2]; first | (rw [cmpL_end a0 a1 k (by omega) (by omega) (by omega)]; grind) | (rw [cmpL_step (by omega) (by omega)]; grind [cmpI])
            exact ⟨by rw [hF] <;> rfl, HH10.below⟩
    · refine pl_no HE20 (wtF HE20 rfl rfl rfl (decide_eq_false hc22)) rfl rfl fun a_107 HE108 => ?_
      refine pl_no HE108 (wtF HE108 rfl rfl rfl (decide_eq_false hc22)) rfl rfl fun a_109 HE110 => ?_
      refine pl_no HE110 (wtF HE110 rfl rfl rfl (decide_eq_false hc22)) rfl rfl fun a_111 HE112 => ?_
      refine pl_no HE112 (wtF HE112 rfl rfl rfl (decide_eq_false hc22)) rfl rfl fun a_113 HE114 => ?_
      refine pl_x HE114 HH10 (wt0 rfl) (x_pickF rfl (decide_eq_false hc22) rfl) rfl rfl fun a_115 HE116 => ?_
      refine wpList_nil ?_
      clear a_6 HE7 HH1 a_8 HE9 a_11 HE12 a_13 HE14 a_15 HE16 a_17 HE18 a_19 HE20 a_107 HE108 a_109 HE110 a_111 HE112 a_113 HE114
      refine nrm ?_
      refine cndF HE116 rfl rfl ?_
      refine wp_exit ?_
      refine (thn_exit (thn_exit (blk_hit ?_)))
      refine nrm ?_
      refine wp_seq ?_
      refine wp_seq ?_
      refine rg ?_
      refine pl_x HE116 HH10 (wt0 rfl) (x_move rfl) rfl rfl fun a_117 HE118 => ?_
      refine pl_x HE118 HH10 (wt0 rfl) (x_len Try.underlying31 rfl) rfl rfl fun a_119 HE120 => ?_
      refine pl_x HE120 HH10 (wt0 rfl) (x_move rfl) rfl rfl fun a_121 HE122 => ?_
      refine pl_x HE122 HH10 (wt0 rfl) (x_len Try.underlying31 rfl) rfl rfl fun a_123 HE124 => ?_
      refine pl_x HE124 HH10 (wt0 rfl) (x_lss rfl rfl) rfl rfl fun a_125 HE126 => ?_
      refine wpList_nil ?_
      clear a_115 HE116 a_117 HE118 a_119 HE120 a_121 HE122 a_123 HE124
      refine nrm ?_
      refine cnd_d HE126 rfl (fun hc30 => ?_) (fun hc30 => ?_)
      · refine wp_seq ?_
        refine rg ?_
        refine pl_x HE126 HH10 (wt0 rfl) (x_assign rfl) rfl rfl fun a_127 HE128 => ?_
        refine wpList_nil ?_
        clear a_125 HE126
        refine nrm ?_
        refine wp_ret ?_
        refine (thn_ret ?_)
        refine ret1 HE128 rfl (rv_tmp rfl) ?_
        have hF : (cmpL a0 a1) = -1 := by
          rw [p21_2]; first | (rw [cmpL_end a0 a1 k (by omega) (by omega) (by omega)]; grind) | (rw [cmpL_step (by omega) (by omega)]; grind [cmpI])
        exact ⟨by rw [hF] <;> rfl, HH10.below⟩
      · refine wp_skip ?_
        refine nrm ?_
        refine wp_seq ?_
        refine wp_seq ?_
        refine rg ?_
        refine pl_x HE126 HH10 (wt0 rfl) (x_move rfl) rfl rfl fun a_129 HE130 => ?_
        refine pl_x HE130 HH10 (wt0 rfl) (x_len Try.underlying31 rfl) rfl rfl fun a_131 HE132 => ?_
        refine pl_x HE132 HH10 (wt0 rfl) (x_move rfl) rfl rfl fun a_133 HE134 => ?_
        refine pl_x HE134 HH10 (wt0 rfl) (x_len Try.underlying31 rfl) rfl rfl fun a_135 HE136 => ?_
        refine pl_x HE136 HH10 (wt0 rfl) (x_gtr rfl rfl) rfl rfl fun a_137 HE138 => ?_
        refine wpList_nil ?_
        clear a_125 HE126 a_129 HE130 a_131 HE132 a_133 HE134 a_135 HE136
        refine nrm ?_
        refine cnd_d HE138 rfl (fun hc31 => ?_) (fun hc31 => ?_)
        · refine wp_seq ?_
          refine rg ?_
          refine pl_x HE138 HH10 (wt0 rfl) (x_assign rfl) rfl rfl fun a_139 HE140 => ?_
          refine wpList_nil ?_
          clear a_137 HE138
          refine nrm ?_
          refine wp_ret ?_
          refine (thn_ret ?_)
          refine ret1 HE140 rfl (rv_tmp rfl) ?_
          have hF : (cmpL a0 a1) = 1 := by
            rw [p21_2]; first | (rw [cmpL_end a0 a1 k (by omega) (by omega) (by omega)]; grind) | (rw [cmpL_step (by omega) (by omega)]; grind [cmpI])
          exact ⟨by rw [hF] <;> rfl, HH10.below⟩
        · refine wp_skip ?_
          refine nrm ?_
          refine wp_seq ?_
          refine rg ?_
          refine pl_x HE138 HH10 (wt0 rfl) (x_assign rfl) rfl rfl fun a_141 HE142 => ?_
          refine wpList_nil ?_
          clear a_137 HE138
          refine nrm ?_
          refine wp_ret ?_
          refine ret1 HE142 rfl (rv_tmp rfl) ?_
          have hF : (cmpL a0 a1) = 0 := by
            rw [p21_2]; first | (rw [cmpL_end a0 a1 k (by omega) (by omega) (by omega)]; grind) | (rw [cmpL_step (by omega) (by omega)]; grind [cmpI])
          exact ⟨by rw [hF] <;> rfl, HH10.below⟩

set_option maxRecDepth 100000 in
set_option maxHeartbeats 4000000 in
theorem impl_compareMultiRules (es0 : List Value) (a0 : tMultiRule) (es1 : List Value) (a1 : tMultiRule) (w : World) (h0 : eMultiRule.R w (Old w) es0 a0) (h1 : eMultiRule.R w (Old w) es1 a1) :
    Calls Try.prog 210 #[.agg es0.toArray, .agg es1.toArray] w fun e w' => e = .returned (.int .i64 (cmpMR a0 a1)) ∧ Below w.heap.size w w' := by
  have H0 := h0
  obtain ⟨Az0_1, cz0_1, Az0_2, cz0_2, Az0_3, cz0_3, rfl, gz0_0, gz0_1, gz0_2, gz0_3, gz0_4⟩ := shape_MultiRule h0
  have jz0_0 := gz0_0; unfold I64 at jz0_0
  have lz0_1 := gz0_1.len
  have lz0_2 := gz0_2.len
  have lz0_3 := gz0_3.len
  have jz0_4 := gz0_4; unfold I64 at jz0_4
  have H1 := h1
  obtain ⟨Az1_1, cz1_1, Az1_2, cz1_2, Az1_3, cz1_3, rfl, gz1_0, gz1_1, gz1_2, gz1_3, gz1_4⟩ := shape_MultiRule h1
  have jz1_0 := gz1_0; unfold I64 at jz1_0
  have lz1_1 := gz1_1.len
  have lz1_2 := gz1_2.len
  have lz1_3 := gz1_3.len
  have jz1_4 := gz1_4; unfold I64 at jz1_4
  have HH1 := Held.start Nob w
  refine enter (n := 20) Try.func210 rfl rfl rfl fun a_2 HE3 => ?_
  refine wp_seq ?_
  refine rg ?_
  refine pl fun K_4 hK5 => ?_
  refine st_box (cs := [.int .i64 (a0.1), .slice Az0_1 (a0.2.1.length) cz0_1, .slice Az0_2 (a0.2.2.1.length) cz0_2, .slice Az0_3 (a0.2.2.2.1.length) cz0_3, .int .i64 (a0.2.2.2.2)]) HE3 HH1 rfl rfl (wt0 rfl) rfl fun q21 a_6 w' HE7 HH8 => hK5 _ _ ?_
  refine pl fun K_9 hK10 => ?_
  refine st_box (cs := [.int .i64 (a1.1), .slice Az1_1 (a1.2.1.length) cz1_1, .slice Az1_2 (a1.2.2.1.length) cz1_2, .slice Az1_3 (a1.2.2.2.1.length) cz1_3, .int .i64 (a1.2.2.2.2)]) HE7 HH8 rfl rfl (wt0 rfl) rfl fun q22 a_11 w' HE12 HH13 => hK10 _ _ ?_
  refine pl_x HE12 HH13 (wt0 rfl) (x_assign rfl) rfl rfl fun a_14 HE15 => ?_
  refine wpList_nil ?_
  clear a_2 HE3 HH1 K_4 hK5 a_6 HE7 HH8 a_11 HE12 hK10 K_9
  refine nrm ?_
  refine wp_seq ?_
  refine wp_seq ?_
  refine rg ?_
  refine pl_x HE15 HH13 (wt0 rfl) (x_fieldAddr fa_195_0 rfl) rfl rfl fun a_16 HE17 => ?_
  refine pl_x HE17 HH13 (wt0 rfl) (x_load1 tv_2 rfl (c_blk 1 rfl rfl)) rfl rfl fun a_18 HE19 => ?_
  refine pl_x HE19 HH13 (wt0 rfl) (x_fieldAddr fa_195_0 rfl) rfl rfl fun a_20 HE21 => ?_
  refine pl_x HE21 HH13 (wt0 rfl) (x_load1 tv_2 rfl (c_blk 0 rfl rfl)) rfl rfl fun a_22 HE23 => ?_
  refine pl_x HE23 HH13 (wt0 rfl) (x_neq rfl rfl) rfl rfl fun a_24 HE25 => ?_
  refine wpList_nil ?_
  clear a_14 HE15 a_16 HE17 a_18 HE19 a_20 HE21 a_22 HE23
  refine nrm ?_
  refine cnd_ne HE25 rfl (fun hc23 => ?_) (fun hc23 => ?_)
  · refine wp_seq ?_
    refine wp_seq ?_
    refine rg ?_
    refine pl_x HE25 HH13 (wt0 rfl) (x_fieldAddr fa_195_0 rfl) rfl rfl fun a_26 HE27 => ?_
    refine pl_x HE27 HH13 (wt0 rfl) (x_load1 tv_2 rfl (c_blk 1 rfl rfl)) rfl rfl fun a_28 HE29 => ?_
    refine pl_x HE29 HH13 (wt0 rfl) (x_fieldAddr fa_195_0 rfl) rfl rfl fun a_30 HE31 => ?_
    refine pl_x HE31 HH13 (wt0 rfl) (x_load1 tv_2 rfl (c_blk 0 rfl rfl)) rfl rfl fun a_32 HE33 => ?_
    refine pl_x HE33 HH13 (wt0 rfl) (x_lss rfl rfl) rfl rfl fun a_34 HE35 => ?_
    refine wpList_nil ?_
    clear a_24 HE25 a_26 HE27 a_28 HE29 a_30 HE31 a_32 HE33
    refine nrm ?_
    refine cnd_d HE35 rfl (fun hc24 => ?_) (fun hc24 => ?_)
    · refine wp_seq ?_
      refine rg ?_
      refine pl_x HE35 HH13 (wt0 rfl) (x_assign rfl) rfl rfl fun a_36 HE37 => ?_
      refine wpList_nil ?_
      clear a_34 HE35
      refine nrm ?_
      refine wp_ret ?_
      refine (thn_ret (thn_ret ?_))
      refine ret1 HE37 rfl (rv_tmp rfl) ?_
      have hF : (cmpMR a0 a1) = -1 := by
        first | (unfold cmpMR; grind)
      exact ⟨by rw [hF] <;> rfl, HH13.below⟩
    · refine wp_skip ?_
      refine nrm ?_
      refine wp_seq ?_
      refine rg ?_
      refine pl_x HE35 HH13 (wt0 rfl) (x_assign rfl) rfl rfl fun a_38 HE39 => ?_
      refine wpList_nil ?_
      clear a_34 HE35
      refine nrm ?_
      refine wp_ret ?_
      refine (thn_ret ?_)
      refine ret1 HE39 rfl (rv_tmp rfl) ?_
      have hF : (cmpMR a0 a1) = 1 := by
        first | (unfold cmpMR; grind)
      exact ⟨by rw [hF] <;> rfl, HH13.below⟩
  · refine wp_skip ?_
    refine nrm ?_
    refine wp_seq ?_
    refine rg ?_
    refine pl_x HE25 HH13 (wt0 rfl) (x_fieldAddr fa_195_1 rfl) rfl rfl fun a_40 HE41 => ?_
    refine pl_x HE41 HH13 (wt0 rfl) (x_load1 tv_31 rfl (c_blk 1 rfl rfl)) rfl rfl fun a_42 HE43 => ?_
    refine pl_x HE43 HH13 (wt0 rfl) (x_fieldAddr fa_195_1 rfl) rfl rfl fun a_44 HE45 => ?_
    refine pl_x HE45 HH13 (wt0 rfl) (x_load1 tv_31 rfl (c_blk 0 rfl rfl)) rfl rfl fun a_46 HE47 => ?_
    refine pl fun K_48 hK49 => ?_
    refine st_call HE47 (wt0 rfl) rfl rfl rfl en_236 rfl rfl (slices_Compare _ _ a0.2.1 _ _ a1.2.1 _ (HH13.old gz0_1) (HH13.old gz1_1)) fun e w' hr => ?_
    obtain ⟨rfl, hbr25⟩ := hr
    have HH50 := HH13.on hbr25
    refine ⟨_, rfl, fun a_51 HE52 => hK49 _ _ ?_⟩
    refine pl_x HE52 HH50 (wt0 rfl) (x_assign rfl) rfl rfl fun a_53 HE54 => ?_
    refine wpList_nil ?_
    clear a_24 HE25 a_40 HE41 a_42 HE43 a_44 HE45 HH13 a_46 HE47 a_51 HE52 hK49 K_48
    refine nrm ?_
    refine wp_ret ?_
    refine ret1 HE54 rfl (rv_tmp rfl) ?_
    have hF : (cmpMR a0 a1) = (cmpL a0.2.1 a1.2.1) := by
      first | (unfold cmpMR; grind)
    exact ⟨by rw [hF] <;> rfl, HH50.below⟩

set_option maxRecDepth 100000 in
set_option maxHeartbeats 4000000 in
theorem spec_l06Before (p0 o0 : Nat) (es0 : List Value) (a0 : tMultiRule) (p1 o1 : Nat) (es1 : List Value) (a1 : tMultiRule) (w : World) (h0 : eMultiRule.R w (Old w) es0 a0) (hq0 : ∀ j v, es0[j]? = some v → w.cell? ⟨p0, o0 + j, none⟩ = some v) (h1 : eMultiRule.R w (Old w) es1 a1) (hq1 : ∀ j v, es1[j]? = some v → w.cell? ⟨p1, o1 + j, none⟩ = some v) :
    Calls Try.prog 206 #[.pointer (some ⟨p0, o0, none⟩), .pointer (some ⟨p1, o1, none⟩)] w fun e w' => e = .returned (.bool (beforeMR a0 a1)) ∧ Below w.heap.size w w' := by
  have H0 := h0
  obtain ⟨Az0_1, cz0_1, Az0_2, cz0_2, Az0_3, cz0_3, rfl, gz0_0, gz0_1, gz0_2, gz0_3, gz0_4⟩ := shape_MultiRule h0
  have jz0_0 := gz0_0; unfold I64 at jz0_0
  have lz0_1 := gz0_1.len
  have lz0_2 := gz0_2.len
  have lz0_3 := gz0_3.len
  have jz0_4 := gz0_4; unfold I64 at jz0_4
  have H1 := h1
  obtain ⟨Az1_1, cz1_1, Az1_2, cz1_2, Az1_3, cz1_3, rfl, gz1_0, gz1_1, gz1_2, gz1_3, gz1_4⟩ := shape_MultiRule h1
  have jz1_0 := gz1_0; unfold I64 at jz1_0
  have lz1_1 := gz1_1.len
  have lz1_2 := gz1_2.len
  have lz1_3 := gz1_3.len
  have jz1_4 := gz1_4; unfold I64 at jz1_4
  have HH1 := Held.start Nob w
  refine enter (n := 37) Try.func206 rfl rfl rfl fun a_2 HE3 => ?_
  refine wp_seq ?_
  refine rg ?_
  refine pl_x HE3 HH1 (wt0 rfl) (x_assign rfl) rfl rfl fun a_4 HE5 => ?_
  refine wpList_nil ?_
  clear a_2 HE3
  refine nrm ?_
  refine wp_seq ?_
  refine dr_start (Held Nob w []) 33 #[false, false, false, false, false, false, false, false, false, false, false, false, false, false, false, false, false, false, false, false, false, false, false, false, false, false, false, false, false, false, false, false, false] hmix rfl rfl HH1 (fun _ h => h.sel [] (by decide) rfl) fun w' HH6 => ?_
  have HS7 := HH6
  refine dr_take (i := 0) (ls' := #[true, false, false, false, false, false, false, false, false, false, false, false, false, false, false, false, false, false, false, false, false, false, false, false, false, false, false, false, false, false, false, false, false]) HE5 HS7 rfl (by kernel_rfl) (by kernel_rfl) (by kernel_rfl) (fun _ _ _ h => h) rfl (wt0 rfl) (x_move rfl) rfl rfl fun a_8 HE9 => ?_
  refine dr_take (i := 1) (ls' := #[true, true, false, false, false, false, false, false, false, false, false, false, false, false, false, false, false, false, false, false, false, false, false, false, false, false, false, false, false, false, false, false, false]) HE9 HS7 rfl (by kernel_rfl) (by kernel_rfl) (by kernel_rfl) (fun _ _ _ h => h) rfl (wt0 rfl) (x_nilCheck rfl) rfl rfl fun a_10 HE11 => ?_
  refine dr_take (i := 2) (ls' := #[true, true, true, false, false, false, false, false, false, false, false, false, false, false, false, false, false, false, false, false, false, false, false, false, false, false, false, false, false, false, false, false, false]) HE11 HS7 rfl (by kernel_rfl) (by kernel_rfl) (by kernel_rfl) (fun _ _ _ h => h) rfl (wt0 rfl) (x_fieldAddr fa_195_0 rfl) rfl rfl fun a_12 HE13 => ?_
  refine dr_take (i := 3) (ls' := #[true, true, true, true, false, false, false, false, false, false, false, false, false, false, false, false, false, false, false, false, false, false, false, false, false, false, false, false, false, false, false, false, false]) HE13 HS7 rfl (by kernel_rfl) (by kernel_rfl) (by kernel_rfl) (fun _ _ _ h => h) rfl (wt0 rfl) (x_load1 tv_2 rfl (c_old (hq0 0 _ rfl))) rfl rfl fun a_14 HE15 => ?_
  refine dr_take (i := 4) (ls' := #[true, true, true, true, true, false, false, false, false, false, false, false, false, false, false, false, false, false, false, false, false, false, false, false, false, false, false, false, false, false, false, false, false]) HE15 HS7 rfl (by kernel_rfl) (by kernel_rfl) (by kernel_rfl) (fun _ _ _ h => h) rfl (wt0 rfl) (x_move rfl) rfl rfl fun a_16 HE17 => ?_
  refine dr_take (i := 5) (ls' := #[true, true, true, true, true, true, false, false, false, false, false, false, false, false, false, false, false, false, false, false, false, false, false, false, false, false, false, false, false, false, false, false, false]) HE17 HS7 rfl (by kernel_rfl) (by kernel_rfl) (by kernel_rfl) (fun _ _ _ h => h) rfl (wt0 rfl) (x_nilCheck rfl) rfl rfl fun a_18 HE19 => ?_
  refine dr_take (i := 6) (ls' := #[true, true, true, true, true, true, true, false, false, false, false, false, false, false, false, false, false, false, false, false, false, false, false, false, false, false, false, false, false, false, false, false, false]) HE19 HS7 rfl (by kernel_rfl) (by kernel_rfl) (by kernel_rfl) (fun _ _ _ h => h) rfl (wt0 rfl) (x_fieldAddr fa_195_0 rfl) rfl rfl fun a_20 HE21 => ?_
  refine dr_take (i := 7) (ls' := #[true, true, true, true, true, true, true, true, false, false, false, false, false, false, false, false, false, false, false, false, false, false, false, false, false, false, false, false, false, false, false, false, false]) HE21 HS7 rfl (by kernel_rfl) (by kernel_rfl) (by kernel_rfl) (fun _ _ _ h => h) rfl (wt0 rfl) (x_load1 tv_2 rfl (c_old (hq1 0 _ rfl))) rfl rfl fun a_22 HE23 => ?_
  refine dr_take (i := 8) (ls' := #[true, true, true, true, true, true, true, true, true, false, false, false, false, false, false, false, false, false, false, false, false, false, false, false, false, false, false, false, false, false, false, false, false]) HE23 HS7 rfl (by kernel_rfl) (by kernel_rfl) (by kernel_rfl) (fun _ _ _ h => h) rfl (wt0 rfl) (x_lss rfl rfl) rfl rfl fun a_24 HE25 => ?_
  refine dr_take (i := 9) (ls' := #[true, true, true, true, true, true, true, true, true, true, false, false, false, false, false, false, false, false, false, false, false, false, false, false, false, false, false, false, false, false, false, false, false]) HE25 HS7 rfl (by kernel_rfl) (by kernel_rfl) (by kernel_rfl) (fun _ _ _ h => h) rfl (wt0 rfl) (x_move rfl) rfl rfl fun a_26 HE27 => ?_
  by_cases hc21 : a0.1 < a1.1
  · refine dr_takeNo (i := 10) (ls' := #[true, true, true, true, true, true, true, true, true, true, true, false, false, false, false, false, false, false, false, false, false, false, false, false, false, false, false, false, false, false, false, false, false]) HE27 HS7 rfl (by kernel_rfl) (by kernel_rfl) (by kernel_rfl) (fun _ _ _ h => h) rfl (wtF HE27 rfl rfl rfl (decide_eq_true hc21)) rfl rfl fun a_28 HE29 => ?_
    refine dr_takeNo (i := 11) (ls' := #[true, true, true, true, true, true, true, true, true, true, true, true, false, false, false, false, false, false, false, false, false, false, false, false, false, false, false, false, false, false, false, false, false]) HE29 HS7 rfl (by kernel_rfl) (by kernel_rfl) (by kernel_rfl) (fun _ _ _ h => h) rfl (wtF HE29 rfl rfl rfl (decide_eq_true hc21)) rfl rfl fun a_30 HE31 => ?_
    refine dr_takeNo (i := 12) (ls' := #[true, true, true, true, true, true, true, true, true, true, true, true, true, false, false, false, false, false, false, false, false, false, false, false, false, false, false, false, false, false, false, false, false]) HE31 HS7 rfl (by kernel_rfl) (by kernel_rfl) (by kernel_rfl) (fun _ _ _ h => h) rfl (wtF HE31 rfl rfl rfl (decide_eq_true hc21)) rfl rfl fun a_32 HE33 => ?_
    refine dr_takeNo (i := 13) (ls' := #[true, true, true, true, true, true, true, true, true, true, true, true, true, true, false, false, false, false, false, false, false, false, false, false, false, false, false, false, false, false, false, false, false]) HE33 HS7 rfl (by kernel_rfl) (by kernel_rfl) (by kernel_rfl) (fun _ _ _ h => h) rfl (wtF HE33 rfl rfl rfl (decide_eq_true hc21)) rfl rfl fun a_34 HE35 => ?_
    refine dr_takeNo (i := 14) (ls' := #[true, true, true, true, true, true, true, true, true, true, true, true, true, true, true, false, false, false, false, false, false, false, false, false, false, false, false, false, false, false, false, false, false]) HE35 HS7 rfl (by kernel_rfl) (by kernel_rfl) (by kernel_rfl) (fun _ _ _ h => h) rfl (wtF HE35 rfl rfl rfl (decide_eq_true hc21)) rfl rfl fun a_36 HE37 => ?_
    refine dr_takeNo (i := 15) (ls' := #[true, true, true, true, true, true, true, true, true, true, true, true, true, true, true, true, false, false, false, false, false, false, false, false, false, false, false, false, false, false, false, false, false]) HE37 HS7 rfl (by kernel_rfl) (by kernel_rfl) (by kernel_rfl) (fun _ _ _ h => h) rfl (wtF HE37 rfl rfl rfl (decide_eq_true hc21)) rfl rfl fun a_38 HE39 => ?_
    refine dr_takeNo (i := 16) (ls' := #[true, true, true, true, true, true, true, true, true, true, true, true, true, true, true, true, true, false, false, false, false, false, false, false, false, false, false, false, false, false, false, false, false]) HE39 HS7 rfl (by kernel_rfl) (by kernel_rfl) (by kernel_rfl) (fun _ _ _ h => h) rfl (wtF HE39 rfl rfl rfl (decide_eq_true hc21)) rfl rfl fun a_40 HE41 => ?_
    refine dr_takeNo (i := 17) (ls' := #[true, true, true, true, true, true, true, true, true, true, true, true, true, true, true, true, true, true, false, false, false, false, false, false, false, false, false, false, false, false, false, false, false]) HE41 HS7 rfl (by kernel_rfl) (by kernel_rfl) (by kernel_rfl) (fun _ _ _ h => h) rfl (wtF HE41 rfl rfl rfl (decide_eq_true hc21)) rfl rfl fun a_42 HE43 => ?_
    refine dr_takeNo (i := 18) (ls' := #[true, true, true, true, true, true, true, true, true, true, true, true, true, true, true, true, true, true, true, false, false, false, false, false, false, false, false, false, false, false, false, false, false]) HE43 HS7 rfl (by kernel_rfl) (by kernel_rfl) (by kernel_rfl) (fun _ _ _ h => h) rfl (wtF HE43 rfl rfl rfl (decide_eq_true hc21)) rfl rfl fun a_44 HE45 => ?_
    refine dr_takeNo (i := 19) (ls' := #[true, true, true, true, true, true, true, true, true, true, true, true, true, true, true, true, true, true, true, true, false, false, false, false, false, false, false, false, false, false, false, false, false]) HE45 HS7 rfl (by kernel_rfl) (by kernel_rfl) (by kernel_rfl) (fun _ _ _ h => h) rfl (wtF HE45 rfl rfl rfl (decide_eq_true hc21)) rfl rfl fun a_46 HE47 => ?_
    refine dr_takeNo (i := 20) (ls' := #[true, true, true, true, true, true, true, true, true, true, true, true, true, true, true, true, true, true, true, true, true, false, false, false, false, false, false, false, false, false, false, false, false]) HE47 HS7 rfl (by kernel_rfl) (by kernel_rfl) (by kernel_rfl) (fun _ _ _ h => h) rfl (wtU HE47 rfl rfl rfl) rfl rfl fun a_48 HE49 => ?_
    refine dr_takeNo (i := 21) (ls' := #[true, true, true, true, true, true, true, true, true, true, true, true, true, true, true, true, true, true, true, true, true, true, false, false, false, false, false, false, false, false, false, false, false]) HE49 HS7 rfl (by kernel_rfl) (by kernel_rfl) (by kernel_rfl) (fun _ _ _ h => h) rfl (wtU HE49 rfl rfl rfl) rfl rfl fun a_50 HE51 => ?_
    refine dr_takeNo (i := 22) (ls' := #[true, true, true, true, true, true, true, true, true, true, true, true, true, true, true, true, true, true, true, true, true, true, true, false, false, false, false, false, false, false, false, false, false]) HE51 HS7 rfl (by kernel_rfl) (by kernel_rfl) (by kernel_rfl) (fun _ _ _ h => h) rfl (wtU HE51 rfl rfl rfl) rfl rfl fun a_52 HE53 => ?_
    refine dr_takeNo (i := 23) (ls' := #[true, true, true, true, true, true, true, true, true, true, true, true, true, true, true, true, true, true, true, true, true, true, true, true, false, false, false, false, false, false, false, false, false]) HE53 HS7 rfl (by kernel_rfl) (by kernel_rfl) (by kernel_rfl) (fun _ _ _ h => h) rfl (wtU HE53 rfl rfl rfl) rfl rfl fun a_54 HE55 => ?_
    refine dr_takeNo (i := 24) (ls' := #[true, true, true, true, true, true, true, true, true, true, true, true, true, true, true, true, true, true, true, true, true, true, true, true, true, false, false, false, false, false, false, false, false]) HE55 HS7 rfl (by kernel_rfl) (by kernel_rfl) (by kernel_rfl) (fun _ _ _ h => h) rfl (wtU HE55 rfl rfl rfl) rfl rfl fun a_56 HE57 => ?_
    refine dr_takeNo (i := 25) (ls' := #[true, true, true, true, true, true, true, true, true, true, true, true, true, true, true, true, true, true, true, true, true, true, true, true, true, true, false, false, false, false, false, false, false]) HE57 HS7 rfl (by kernel_rfl) (by kernel_rfl) (by kernel_rfl) (fun _ _ _ h => h) rfl (wtU HE57 rfl rfl rfl) rfl rfl fun a_58 HE59 => ?_
    refine dr_takeNo (i := 26) (ls' := #[true, true, true, true, true, true, true, true, true, true, true, true, true, true, true, true, true, true, true, true, true, true, true, true, true, true, true, false, false, false, false, false, false]) HE59 HS7 rfl (by kernel_rfl) (by kernel_rfl) (by kernel_rfl) (fun _ _ _ h => h) rfl (wtU HE59 rfl rfl rfl) rfl rfl fun a_60 HE61 => ?_
    refine dr_takeNo (i := 27) (ls' := #[true, true, true, true, true, true, true, true, true, true, true, true, true, true, true, true, true, true, true, true, true, true, true, true, true, true, true, true, false, false, false, false, false]) HE61 HS7 rfl (by kernel_rfl) (by kernel_rfl) (by kernel_rfl) (fun _ _ _ h => h) rfl (wtU HE61 rfl rfl rfl) rfl rfl fun a_62 HE63 => ?_
    refine dr_takeNo (i := 28) (ls' := #[true, true, true, true, true, true, true, true, true, true, true, true, true, true, true, true, true, true, true, true, true, true, true, true, true, true, true, true, true, false, false, false, false]) HE63 HS7 rfl (by kernel_rfl) (by kernel_rfl) (by kernel_rfl) (fun _ _ _ h => h) rfl (wtU HE63 rfl rfl rfl) rfl rfl fun a_64 HE65 => ?_
    refine dr_takeNo (i := 29) (ls' := #[true, true, true, true, true, true, true, true, true, true, true, true, true, true, true, true, true, true, true, true, true, true, true, true, true, true, true, true, true, true, false, false, false]) HE65 HS7 rfl (by kernel_rfl) (by kernel_rfl) (by kernel_rfl) (fun _ _ _ h => h) rfl (wtU HE65 rfl rfl rfl) rfl rfl fun a_66 HE67 => ?_
    refine dr_takeNo (i := 30) (ls' := #[true, true, true, true, true, true, true, true, true, true, true, true, true, true, true, true, true, true, true, true, true, true, true, true, true, true, true, true, true, true, true, false, false]) HE67 HS7 rfl (by kernel_rfl) (by kernel_rfl) (by kernel_rfl) (fun _ _ _ h => h) rfl (wtF HE67 rfl rfl rfl (decide_eq_true hc21)) rfl rfl fun a_68 HE69 => ?_
    refine dr_take (i := 31) (ls' := #[true, true, true, true, true, true, true, true, true, true, true, true, true, true, true, true, true, true, true, true, true, true, true, true, true, true, true, true, true, true, true, true, false]) HE69 HS7 rfl (by kernel_rfl) (by kernel_rfl) (by kernel_rfl) (fun _ _ _ h => h) rfl (wt0 rfl) (x_pickT rfl (decide_eq_true hc21) rfl) rfl rfl fun a_70 HE71 => ?_
    refine dr_take (i := 32) (ls' := #[true, true, true, true, true, true, true, true, true, true, true, true, true, true, true, true, true, true, true, true, true, true, true, true, true, true, true, true, true, true, true, true, true]) HE71 HS7 rfl (by kernel_rfl) (by kernel_rfl) (by kernel_rfl) (fun _ _ _ h => h) rfl (wt0 rfl) (x_assign rfl) rfl rfl fun a_72 HE73 => ?_
    refine dr_done (by kernel_rfl) ?_
    clear HH1 a_4 HE5 a_8 HE9 a_10 HE11 a_12 HE13 a_14 HE15 a_16 HE17 a_18 HE19 a_20 HE21 a_22 HE23 a_24 HE25 a_26 HE27 a_28 HE29 a_30 HE31 a_32 HE33 a_34 HE35 a_36 HE37 a_38 HE39 a_40 HE41 a_42 HE43 a_44 HE45 a_46 HE47 a_48 HE49 a_50 HE51 a_52 HE53 a_54 HE55 a_56 HE57 a_58 HE59 a_60 HE61 a_62 HE63 a_64 HE65 a_66 HE67 a_68 HE69 a_70 HE71
    refine nrm ?_
    refine wp_ret ?_
    refine ret1 HE73 rfl (rv_tmp rfl) ?_
    have hF : (beforeMR a0 a1) = true := by
      unfold beforeMR cmpMR; grind
    exact ⟨by rw [hF] <;> rfl, HH6.below⟩
  · refine dr_take (i := 10) (ls' := #[true, true, true, true, true, true, true, true, true, true, true, false, false, false, false, false, false, false, false, false, false, false, false, false, false, false, false, false, false, false, false, false, false]) HE27 HS7 rfl (by kernel_rfl) (by kernel_rfl) (by kernel_rfl) (fun _ _ _ h => h) rfl (wtT HE27 rfl rfl rfl (decide_eq_false hc21)) (x_move rfl) rfl rfl fun a_74 HE75 => ?_
    refine dr_take (i := 11) (ls' := #[true, true, true, true, true, true, true, true, true, true, true, true, false, false, false, false, false, false, false, false, false, false, false, false, false, false, false, false, false, false, false, false, false]) HE75 HS7 rfl (by kernel_rfl) (by kernel_rfl) (by kernel_rfl) (fun _ _ _ h => h) rfl (wtT HE75 rfl rfl rfl (decide_eq_false hc21)) (x_nilCheck rfl) rfl rfl fun a_76 HE77 => ?_
    refine dr_take (i := 12) (ls' := #[true, true, true, true, true, true, true, true, true, true, true, true, true, false, false, false, false, false, false, false, false, false, false, false, false, false, false, false, false, false, false, false, false]) HE77 HS7 rfl (by kernel_rfl) (by kernel_rfl) (by kernel_rfl) (fun _ _ _ h => h) rfl (wtT HE77 rfl rfl rfl (decide_eq_false hc21)) (x_fieldAddr fa_195_0 rfl) rfl rfl fun a_78 HE79 => ?_
    refine dr_take (i := 13) (ls' := #[true, true, true, true, true, true, true, true, true, true, true, true, true, true, false, false, false, false, false, false, false, false, false, false, false, false, false, false, false, false, false, false, false]) HE79 HS7 rfl (by kernel_rfl) (by kernel_rfl) (by kernel_rfl) (fun _ _ _ h => h) rfl (wtT HE79 rfl rfl rfl (decide_eq_false hc21)) (x_load1 tv_2 rfl (c_old (hq0 0 _ rfl))) rfl rfl fun a_80 HE81 => ?_
    refine dr_take (i := 14) (ls' := #[true, true, true, true, true, true, true, true, true, true, true, true, true, true, true, false, false, false, false, false, false, false, false, false, false, false, false, false, false, false, false, false, false]) HE81 HS7 rfl (by kernel_rfl) (by kernel_rfl) (by kernel_rfl) (fun _ _ _ h => h) rfl (wtT HE81 rfl rfl rfl (decide_eq_false hc21)) (x_move rfl) rfl rfl fun a_82 HE83 => ?_
    refine dr_take (i := 15) (ls' := #[true, true, true, true, true, true, true, true, true, true, true, true, true, true, true, true, false, false, false, false, false, false, false, false, false, false, false, false, false, false, false, false, false]) HE83 HS7 rfl (by kernel_rfl) (by kernel_rfl) (by kernel_rfl) (fun _ _ _ h => h) rfl (wtT HE83 rfl rfl rfl (decide_eq_false hc21)) (x_nilCheck rfl) rfl rfl fun a_84 HE85 => ?_
    refine dr_take (i := 16) (ls' := #[true, true, true, true, true, true, true, true, true, true, true, true, true, true, true, true, true, false, false, false, false, false, false, false, false, false, false, false, false, false, false, false, false]) HE85 HS7 rfl (by kernel_rfl) (by kernel_rfl) (by kernel_rfl) (fun _ _ _ h => h) rfl (wtT HE85 rfl rfl rfl (decide_eq_false hc21)) (x_fieldAddr fa_195_0 rfl) rfl rfl fun a_86 HE87 => ?_
    refine dr_take (i := 17) (ls' := #[true, true, true, true, true, true, true, true, true, true, true, true, true, true, true, true, true, true, false, false, false, false, false, false, false, false, false, false, false, false, false, false, false]) HE87 HS7 rfl (by kernel_rfl) (by kernel_rfl) (by kernel_rfl) (fun _ _ _ h => h) rfl (wtT HE87 rfl rfl rfl (decide_eq_false hc21)) (x_load1 tv_2 rfl (c_old (hq1 0 _ rfl))) rfl rfl fun a_88 HE89 => ?_
    refine dr_take (i := 18) (ls' := #[true, true, true, true, true, true, true, true, true, true, true, true, true, true, true, true, true, true, true, false, false, false, false, false, false, false, false, false, false, false, false, false, false]) HE89 HS7 rfl (by kernel_rfl) (by kernel_rfl) (by kernel_rfl) (fun _ _ _ h => h) rfl (wtT HE89 rfl rfl rfl (decide_eq_false hc21)) (x_eql rfl rfl) rfl rfl fun a_90 HE91 => ?_
    refine dr_take (i := 19) (ls' := #[true, true, true, true, true, true, true, true, true, true, true, true, true, true, true, true, true, true, true, true, false, false, false, false, false, false, false, false, false, false, false, false, false]) HE91 HS7 rfl (by kernel_rfl) (by kernel_rfl) (by kernel_rfl) (fun _ _ _ h => h) rfl (wtT HE91 rfl rfl rfl (decide_eq_false hc21)) (x_move rfl) rfl rfl fun a_92 HE93 => ?_
    by_cases hc22 : a0.1 = a1.1
    · refine dr_take (i := 20) (ls' := #[true, true, true, true, true, true, true, true, true, true, true, true, true, true, true, true, true, true, true, true, true, false, false, false, false, false, false, false, false, false, false, false, false]) HE93 HS7 rfl (by kernel_rfl) (by kernel_rfl) (by kernel_rfl) (fun _ _ _ h => h) rfl (wtT HE93 rfl rfl rfl (beq_t hc22)) (x_move rfl) rfl rfl fun a_94 HE95 => ?_
      refine dr_take (i := 21) (ls' := #[true, true, true, true, true, true, true, true, true, true, true, true, true, true, true, true, true, true, true, true, true, true, false, false, false, false, false, false, false, false, false, false, false]) HE95 HS7 rfl (by kernel_rfl) (by kernel_rfl) (by kernel_rfl) (fun _ _ _ h => h) rfl (wtT HE95 rfl rfl rfl (beq_t hc22)) (x_nilCheck rfl) rfl rfl fun a_96 HE97 => ?_
      refine dr_take (i := 22) (ls' := #[true, true, true, true, true, true, true, true, true, true, true, true, true, true, true, true, true, true, true, true, true, true, true, false, false, false, false, false, false, false, false, false, false]) HE97 HS7 rfl (by kernel_rfl) (by kernel_rfl) (by kernel_rfl) (fun _ _ _ h => h) rfl (wtT HE97 rfl rfl rfl (beq_t hc22)) (x_fieldAddr fa_195_1 rfl) rfl rfl fun a_98 HE99 => ?_
      refine dr_take (i := 23) (ls' := #[true, true, true, true, true, true, true, true, true, true, true, true, true, true, true, true, true, true, true, true, true, true, true, true, false, false, false, false, false, false, false, false, false]) HE99 HS7 rfl (by kernel_rfl) (by kernel_rfl) (by kernel_rfl) (fun _ _ _ h => h) rfl (wtT HE99 rfl rfl rfl (beq_t hc22)) (x_load1 tv_31 rfl (c_old (hq0 1 _ rfl))) rfl rfl fun a_100 HE101 => ?_
      refine dr_take (i := 24) (ls' := #[true, true, true, true, true, true, true, true, true, true, true, true, true, true, true, true, true, true, true, true, true, true, true, true, true, false, false, false, false, false, false, false, false]) HE101 HS7 rfl (by kernel_rfl) (by kernel_rfl) (by kernel_rfl) (fun _ _ _ h => h) rfl (wtT HE101 rfl rfl rfl (beq_t hc22)) (x_move rfl) rfl rfl fun a_102 HE103 => ?_
      refine dr_take (i := 25) (ls' := #[true, true, true, true, true, true, true, true, true, true, true, true, true, true, true, true, true, true, true, true, true, true, true, true, true, true, false, false, false, false, false, false, false]) HE103 HS7 rfl (by kernel_rfl) (by kernel_rfl) (by kernel_rfl) (fun _ _ _ h => h) rfl (wtT HE103 rfl rfl rfl (beq_t hc22)) (x_nilCheck rfl) rfl rfl fun a_104 HE105 => ?_
      refine dr_take (i := 26) (ls' := #[true, true, true, true, true, true, true, true, true, true, true, true, true, true, true, true, true, true, true, true, true, true, true, true, true, true, true, false, false, false, false, false, false]) HE105 HS7 rfl (by kernel_rfl) (by kernel_rfl) (by kernel_rfl) (fun _ _ _ h => h) rfl (wtT HE105 rfl rfl rfl (beq_t hc22)) (x_fieldAddr fa_195_1 rfl) rfl rfl fun a_106 HE107 => ?_
      refine dr_take (i := 27) (ls' := #[true, true, true, true, true, true, true, true, true, true, true, true, true, true, true, true, true, true, true, true, true, true, true, true, true, true, true, true, false, false, false, false, false]) HE107 HS7 rfl (by kernel_rfl) (by kernel_rfl) (by kernel_rfl) (fun _ _ _ h => h) rfl (wtT HE107 rfl rfl rfl (beq_t hc22)) (x_load1 tv_31 rfl (c_old (hq1 1 _ rfl))) rfl rfl fun a_108 HE109 => ?_
      refine dr_one (i := 28) (ls' := #[true, true, true, true, true, true, true, true, true, true, true, true, true, true, true, true, true, true, true, true, true, true, true, true, true, true, true, true, true, false, false, false, false]) rfl (by kernel_rfl) rfl fun K_110 hK111 => ?_
      refine st_call HE109 (wtT HE109 rfl rfl rfl (beq_t hc22)) rfl rfl rfl en_235 rfl rfl (spec_l01Compare _ _ a0.2.1 _ _ a1.2.1 _ (HH6.old gz0_1) (HH6.old gz1_1)) fun e w' hr => ?_
      obtain ⟨rfl, hbr23⟩ := hr
      have HH112 := HH6.on hbr23
      refine ⟨_, rfl, fun a_113 HE114 => hK111 _ _ (by exact HH112.sel [] (by decide) rfl) ?_⟩
      have HS115 := HH112.sel [] (by decide) rfl
      refine dr_take (i := 29) (ls' := #[true, true, true, true, true, true, true, true, true, true, true, true, true, true, true, true, true, true, true, true, true, true, true, true, true, true, true, true, true, true, false, false, false]) HE114 HS115 rfl (by kernel_rfl) (by kernel_rfl) (by kernel_rfl) (fun _ _ _ h => h) rfl (wtT HE114 rfl rfl rfl (beq_t hc22)) (x_lss rfl rfl) rfl rfl fun a_116 HE117 => ?_
      refine dr_take (i := 30) (ls' := #[true, true, true, true, true, true, true, true, true, true, true, true, true, true, true, true, true, true, true, true, true, true, true, true, true, true, true, true, true, true, true, false, false]) HE117 HS115 rfl (by kernel_rfl) (by kernel_rfl) (by kernel_rfl) (fun _ _ _ h => h) rfl (wtT HE117 rfl rfl rfl (decide_eq_false hc21)) (x_pickT rfl (beq_t hc22) rfl) rfl rfl fun a_118 HE119 => ?_
      refine dr_take (i := 31) (ls' := #[true, true, true, true, true, true, true, true, true, true, true, true, true, true, true, true, true, true, true, true, true, true, true, true, true, true, true, true, true, true, true, true, false]) HE119 HS115 rfl (by kernel_rfl) (by kernel_rfl) (by kernel_rfl) (fun _ _ _ h => h) rfl (wt0 rfl) (x_pickF rfl (decide_eq_false hc21) rfl) rfl rfl fun a_120 HE121 => ?_
      refine dr_take (i := 32) (ls' := #[true, true, true, true, true, true, true, true, true, true, true, true, true, true, true, true, true, true, true, true, true, true, true, true, true, true, true, true, true, true, true, true, true]) HE121 HS115 rfl (by kernel_rfl) (by kernel_rfl) (by kernel_rfl) (fun _ _ _ h => h) rfl (wt0 rfl) (x_assign rfl) rfl rfl fun a_122 HE123 => ?_
      refine dr_done (by kernel_rfl) ?_
      clear HH1 a_4 HE5 a_8 HE9 a_10 HE11 a_12 HE13 a_14 HE15 a_16 HE17 a_18 HE19 a_20 HE21 a_22 HE23 a_24 HE25 a_26 HE27 a_74 HE75 a_76 HE77 a_78 HE79 a_80 HE81 a_82 HE83 a_84 HE85 a_86 HE87 a_88 HE89 a_90 HE91 a_92 HE93 a_94 HE95 a_96 HE97 a_98 HE99 a_100 HE101 a_102 HE103 a_104 HE105 a_106 HE107 HH6 a_108 HE109 HS7 a_113 HE114 a_116 HE117 a_118 HE119 a_120 HE121 hK111 K_110
      refine nrm ?_
      refine wp_ret ?_
      refine ret1 HE123 rfl (rv_tmp rfl) ?_
      have hF : (beforeMR a0 a1) = decide ((cmpL a0.2.1 a1.2.1) < 0) := by
        unfold beforeMR cmpMR; grind
      exact ⟨by rw [hF] <;> rfl, HH112.below⟩
    · refine dr_takeNo (i := 20) (ls' := #[true, true, true, true, true, true, true, true, true, true, true, true, true, true, true, true, true, true, true, true, true, false, false, false, false, false, false, false, false, false, false, false, false]) HE93 HS7 rfl (by kernel_rfl) (by kernel_rfl) (by kernel_rfl) (fun _ _ _ h => h) rfl (wtF HE93 rfl rfl rfl (beq_f hc22)) rfl rfl fun a_124 HE125 => ?_
      refine dr_takeNo (i := 21) (ls' := #[true, true, true, true, true, true, true, true, true, true, true, true, true, true, true, true, true, true, true, true, true, true, false, false, false, false, false, false, false, false, false, false, false]) HE125 HS7 rfl (by kernel_rfl) (by kernel_rfl) (by kernel_rfl) (fun _ _ _ h => h) rfl (wtF HE125 rfl rfl rfl (beq_f hc22)) rfl rfl fun a_126 HE127 => ?_
      refine dr_takeNo (i := 22) (ls' := #[true, true, true, true, true, true, true, true, true, true, true, true, true, true, true, true, true, true, true, true, true, true, true, false, false, false, false, false, false, false, false, false, false]) HE127 HS7 rfl (by kernel_rfl) (by kernel_rfl) (by kernel_rfl) (fun _ _ _ h => h) rfl (wtF HE127 rfl rfl rfl (beq_f hc22)) rfl rfl fun a_128 HE129 => ?_
      refine dr_takeNo (i := 23) (ls' := #[true, true, true, true, true, true, true, true, true, true, true, true, true, true, true, true, true, true, true, true, true, true, true, true, false, false, false, false, false, false, false, false, false]) HE129 HS7 rfl (by kernel_rfl) (by kernel_rfl) (by kernel_rfl) (fun _ _ _ h => h) rfl (wtF HE129 rfl rfl rfl (beq_f hc22)) rfl rfl fun a_130 HE131 => ?_
      refine dr_takeNo (i := 24) (ls' := #[true, true, true, true, true, true, true, true, true, true, true, true, true, true, true, true, true, true, true, true, true, true, true, true, true, false, false, false, false, false, false, false, false]) HE131 HS7 rfl (by kernel_rfl) (by kernel_rfl) (by kernel_rfl) (fun _ _ _ h => h) rfl (wtF HE131 rfl rfl rfl (beq_f hc22)) rfl rfl fun a_132 HE133 => ?_
      refine dr_takeNo (i := 25) (ls' := #[true, true, true, true, true, true, true, true, true, true, true, true, true, true, true, true, true, true, true, true, true, true, true, true, true, true, false, false, false, false, false, false, false]) HE133 HS7 rfl (by kernel_rfl) (by kernel_rfl) (by kernel_rfl) (fun _ _ _ h => h) rfl (wtF HE133 rfl rfl rfl (beq_f hc22)) rfl rfl fun a_134 HE135 => ?_
      refine dr_takeNo (i := 26) (ls' := #[true, true, true, true, true, true, true, true, true, true, true, true, true, true, true, true, true, true, true, true, true, true, true, true, true, true, true, false, false, false, false, false, false]) HE135 HS7 rfl (by kernel_rfl) (by kernel_rfl) (by kernel_rfl) (fun _ _ _ h => h) rfl (wtF HE135 rfl rfl rfl (beq_f hc22)) rfl rfl fun a_136 HE137 => ?_
      refine dr_takeNo (i := 27) (ls' := #[true, true, true, true, true, true, true, true, true, true, true, true, true, true, true, true, true, true, true, true, true, true, true, true, true, true, true, true, false, false, false, false, false]) HE137 HS7 rfl (by kernel_rfl) (by kernel_rfl) (by kernel_rfl) (fun _ _ _ h => h) rfl (wtF HE137 rfl rfl rfl (beq_f hc22)) rfl rfl fun a_138 HE139 => ?_
      refine dr_takeNo (i := 28) (ls' := #[true, true, true, true, true, true, true, true, true, true, true, true, true, true, true, true, true, true, true, true, true, true, true, true, true, true, true, true, true, false, false, false, false]) HE139 HS7 rfl (by kernel_rfl) (by kernel_rfl) (by kernel_rfl) (fun _ _ _ h => h) rfl (wtF HE139 rfl rfl rfl (beq_f hc22)) rfl rfl fun a_140 HE141 => ?_
      refine dr_takeNo (i := 29) (ls' := #[true, true, true, true, true, true, true, true, true, true, true, true, true, true, true, true, true, true, true, true, true, true, true, true, true, true, true, true, true, true, false, false, false]) HE141 HS7 rfl (by kernel_rfl) (by kernel_rfl) (by kernel_rfl) (fun _ _ _ h => h) rfl (wtF HE141 rfl rfl rfl (beq_f hc22)) rfl rfl fun a_142 HE143 => ?_
      refine dr_take (i := 30) (ls' := #[true, true, true, true, true, true, true, true, true, true, true, true, true, true, true, true, true, true, true, true, true, true, true, true, true, true, true, true, true, true, true, false, false]) HE143 HS7 rfl (by kernel_rfl) (by kernel_rfl) (by kernel_rfl) (fun _ _ _ h => h) rfl (wtT HE143 rfl rfl rfl (decide_eq_false hc21)) (x_pickF rfl (beq_f hc22) rfl) rfl rfl fun a_144 HE145 => ?_
      refine dr_take (i := 31) (ls' := #[true, true, true, true, true, true, true, true, true, true, true, true, true, true, true, true, true, true, true, true, true, true, true, true, true, true, true, true, true, true, true, true, false]) HE145 HS7 rfl (by kernel_rfl) (by kernel_rfl) (by kernel_rfl) (fun _ _ _ h => h) rfl (wt0 rfl) (x_pickF rfl (decide_eq_false hc21) rfl) rfl rfl fun a_146 HE147 => ?_
      refine dr_take (i := 32) (ls' := #[true, true, true, true, true, true, true, true, true, true, true, true, true, true, true, true, true, true, true, true, true, true, true, true, true, true, true, true, true, true, true, true, true]) HE147 HS7 rfl (by kernel_rfl) (by kernel_rfl) (by kernel_rfl) (fun _ _ _ h => h) rfl (wt0 rfl) (x_assign rfl) rfl rfl fun a_148 HE149 => ?_
      refine dr_done (by kernel_rfl) ?_
      clear HH1 a_4 HE5 a_8 HE9 a_10 HE11 a_12 HE13 a_14 HE15 a_16 HE17 a_18 HE19 a_20 HE21 a_22 HE23 a_24 HE25 a_26 HE27 a_74 HE75 a_76 HE77 a_78 HE79 a_80 HE81 a_82 HE83 a_84 HE85 a_86 HE87 a_88 HE89 a_90 HE91 a_92 HE93 a_124 HE125 a_126 HE127 a_128 HE129 a_130 HE131 a_132 HE133 a_134 HE135 a_136 HE137 a_138 HE139 a_140 HE141 a_142 HE143 a_144 HE145 a_146 HE147
      refine nrm ?_
      refine wp_ret ?_
      refine ret1 HE149 rfl (rv_tmp rfl) ?_
      have hF : (beforeMR a0 a1) = false := by
        unfold beforeMR cmpMR; grind
      exact ⟨by rw [hF] <;> rfl, HH6.below⟩

set_option maxRecDepth 100000 in
set_option maxHeartbeats 4000000 in
theorem spec_l06RowE (A0 : Option Addr) (c0 : Nat) (a0 : (List Int)) (a1 : Int) (a2 : Int) (a3 : Int) (w : World) (h0 : Sl eInt w (Old w) A0 c0 a0) :
    Calls Try.prog 205 #[.slice A0 a0.length c0, .int .i64 a1, .int .i64 a2, .int .i64 a3] w fun e w' => e = .returned (.bool (rowB a0 a1 a2 a3)) ∧ Below w.heap.size w w' := by
  have l0 := h0.len
  have HH1 := Held.start Nob w
  refine enter (n := 28) Try.func205 rfl rfl rfl fun a_2 HE3 => ?_
  refine wp_seq ?_
  refine rg ?_
  refine pl_x HE3 HH1 (wt0 rfl) (x_assign rfl) rfl rfl fun a_4 HE5 => ?_
  refine wpList_nil ?_
  clear a_2 HE3
  refine nrm ?_
  refine wp_seq ?_
  refine wp_seq ?_
  refine rg ?_
  refine pl_x HE5 HH1 (wt0 rfl) (x_move rfl) rfl rfl fun a_6 HE7 => ?_
  refine pl_x HE7 HH1 (wt0 rfl) (x_len Try.underlying31 rfl) rfl rfl fun a_8 HE9 => ?_
  refine pl_x HE9 HH1 (wt0 rfl) (x_move rfl) rfl rfl fun a_10 HE11 => ?_
  refine pl_x HE11 HH1 (wt0 rfl) (x_neq rfl rfl) rfl rfl fun a_12 HE13 => ?_
  refine wpList_nil ?_
  clear a_4 HE5 a_6 HE7 a_8 HE9 a_10 HE11
  refine nrm ?_
  refine cnd_ne HE13 rfl (fun hc21 => ?_) (fun hc21 => ?_)
  · refine wp_seq ?_
    refine rg ?_
    refine pl_x HE13 HH1 (wt0 rfl) (x_assign rfl) rfl rfl fun a_14 HE15 => ?_
    refine wpList_nil ?_
    clear a_12 HE13
    refine nrm ?_
    refine wp_ret ?_
    refine (thn_ret ?_)
    refine ret1 HE15 rfl (rv_tmp rfl) ?_
    have hF : (rowB a0 a1 a2 a3) = false := by
      first | (unfold rowB; rw [beq_false_of_ne (by omega)]; rfl) | (unfold rowB allW; rw [any_hit (by omega : k < a0.length) (by rw [← xe0, outB_eq, hc21]; rfl)]; simp) | (have hq := p0_1; rw [List.take_of_length_le (by omega)] at hq; unfold rowB allW; rw [hq]; simp; omega)
    exact ⟨by rw [hF] <;> rfl, HH1.below⟩
  · refine wp_skip ?_
    refine nrm ?_
    refine wp_seq ?_
    refine wp_seq ?_
    refine rg ?_
    refine pl_x HE13 HH1 (wt0 rfl) (x_assign rfl) rfl rfl fun a_16 HE17 => ?_
    refine wpList_nil ?_
    clear a_12 HE13
    refine nrm ?_
    refine wp_block ?_
    refine lp (fun m a w' => ∃ (k : Nat), m = a0.length - k ∧ Env 28 [(9, .int .i64 (k : Int)), (0, .slice A0 (a0.length) c0), (2, .int .i64 (a2)), (3, .int .i64 (a3))] a ∧ Held Nob w [] w' ∧ (k ≤ a0.length) ∧ ((a0.take k).any (outB a2 a3) = false)) (a0.length - (0)) ?_ ?_
    · exact ⟨0, rfl, HE17.sub ⟨(lkI rfl (by first | rfl | omega | (simp [hc21]; done))), rfl, rfl, rfl, trivial⟩, (HH1.sel [] (by decide) rfl), (by first | omega | assumption | (simp; done) | simp_all), (by rfl)⟩
    · rintro m a_18 w' ⟨k, rfl, HE19, HH20, p22_0, p22_1⟩
      refine wp_seq ?_
      refine wp_seq ?_
      refine rg ?_
      refine pl_x HE19 HH20 (wt0 rfl) (x_move rfl) rfl rfl fun a_21 HE22 => ?_
      refine pl_x HE22 HH20 (wt0 rfl) (x_move rfl) rfl rfl fun a_23 HE24 => ?_
      refine pl_x HE24 HH20 (wt0 rfl) (x_len Try.underlying31 rfl) rfl rfl fun a_25 HE26 => ?_
      refine pl_x HE26 HH20 (wt0 rfl) (x_lss rfl rfl) rfl rfl fun a_27 HE28 => ?_
      refine wpList_nil ?_
      clear a_16 HE17 HH1 a_18 HE19 a_21 HE22 a_23 HE24 a_25 HE26
      refine nrm ?_
      refine cnd_d HE28 rfl (fun hc23 => ?_) (fun hc23 => ?_)
      · refine wp_skip ?_
        refine nrm ?_
        refine wp_seq ?_
        refine wp_block ?_
        refine wp_seq ?_
        refine rg ?_
        refine pl_x HE28 HH20 (wt0 rfl) (x_move rfl) rfl rfl fun a_29 HE30 => ?_
        refine pl_x HE30 HH20 (wt0 rfl) (x_move rfl) rfl rfl fun a_31 HE32 => ?_
        have ke24 : k < a0.length := by omega
        obtain ⟨be24, fe24, ese24, Ae24, Re24, De24⟩ := el_old h0 ke24
        obtain ⟨e24, xe24⟩ : ∃ x, x = a0[k] := ⟨_, rfl⟩
        rw [← xe24] at Re24
        have Qe24 := Re24
        obtain ⟨rfl, ie24⟩ := Re24
        have je24 := ie24; unfold I64 at je24
        refine pl_x HE32 HH20 (wt0 rfl) (x_indexAddr ts_31 rfl rfl Ae24 rfl ke24) rfl rfl fun a_33 HE34 => ?_
        refine pl_x HE34 HH20 (wt0 rfl) (x_load1 tv_2 rfl (c_old (De24 0 _ rfl))) rfl rfl fun a_35 HE36 => ?_
        refine pl_x HE36 HH20 (wt0 rfl) (x_move rfl) rfl rfl fun a_37 HE38 => ?_
        refine pl_x HE38 HH20 (wt0 rfl) (x_move rfl) rfl rfl fun a_39 HE40 => ?_
        refine pl fun K_41 hK42 => ?_
        refine st_call HE40 (wt0 rfl) rfl rfl rfl en_108 rfl rfl (spec_l00In e24 a2 a3 _ ) fun e w' hr => ?_
        obtain ⟨rfl, rfl⟩ := hr
        refine ⟨_, rfl, fun a_43 HE44 => hK42 _ _ ?_⟩
        refine pl_x HE44 HH20 (wt0 rfl) (x_not rfl) rfl rfl fun a_45 HE46 => ?_
        refine wpList_nil ?_
        clear a_27 HE28 a_29 HE30 a_31 HE32 a_33 HE34 a_35 HE36 a_37 HE38 a_39 HE40 a_43 HE44 hK42 K_41
        refine nrm ?_
        refine cnd_nb HE46 rfl (fun hc26 => ?_) (fun hc26 => ?_)
        · refine wp_seq ?_
          refine rg ?_
          refine pl_x HE46 HH20 (wt0 rfl) (x_assign rfl) rfl rfl fun a_47 HE48 => ?_
          refine wpList_nil ?_
          clear a_45 HE46
          refine nrm ?_
          refine wp_ret ?_
          refine (blk_ret (thn_ret (thn_ret (blk_ret (thn_ret ?_)))))
          refine ret1 HE48 rfl (rv_tmp rfl) ?_
          have hF : (rowB a0 a1 a2 a3) = false := by
            first | (unfold rowB; rw [beq_false_of_ne (by omega)]; rfl) | (unfold rowB allW; rw [any_hit (by omega : k < a0.length) (by rw [← xe24, outB_eq, hc26]; rfl)]; simp) | (have hq := p22_1; rw [List.take_of_length_le (by omega)] at hq; unfold rowB allW; rw [hq]; simp; omega)
          exact ⟨by rw [hF] <;> rfl, HH20.below⟩
        · refine wp_skip ?_
          refine blk_n ?_
          refine nrm ?_
          refine rg ?_
          refine pl_x HE46 HH20 (wt0 rfl) (x_move rfl) rfl rfl fun a_49 HE50 => ?_
          refine pl_x HE50 HH20 (wt0 rfl) (x_add rfl rfl (by exact ⟨by omega, by omega⟩)) rfl rfl fun a_51 HE52 => ?_
          refine pl_x HE52 HH20 (wt0 rfl) (x_assign rfl) rfl rfl fun a_53 HE54 => ?_
          refine wpList_nil ?_
          clear a_45 HE46 a_49 HE50 a_51 HE52
          exact nrm ⟨a0.length - (k + 1), (by omega), k + 1, rfl, HE54.sub ⟨(lkI rfl (by first | rfl | omega | (simp [hc21, p22_0, p22_1, hc23, xe24, hc26]; done))), rfl, rfl, rfl, trivial⟩, (HH20.sel [] (by decide) rfl), (by first | omega | assumption | (simp; done) | simp_all), (by exact any_step (by omega) p22_1 (by rw [← xe24, outB_eq, hc26]; rfl))⟩
      · refine wp_exit ?_
        refine (thn_exit (thn_exit (blk_hit ?_)))
        refine nrm ?_
        refine wp_seq ?_
        refine rg ?_
        refine pl_x HE28 HH20 (wt0 rfl) (x_assign rfl) rfl rfl fun a_55 HE56 => ?_
        refine wpList_nil ?_
        clear a_27 HE28
        refine nrm ?_
        refine wp_ret ?_
        refine ret1 HE56 rfl (rv_tmp rfl) ?_
        have hF : (rowB a0 a1 a2 a3) = true := by
          first | (unfold rowB; rw [beq_false_of_ne (by omega)]; rfl) | (unfold rowB allW; rw [any_hit (by omega : k < a0.length) (by rw [← xe0, outB_eq, hc23]; rfl)]; simp) | (have hq := p22_1; rw [List.take_of_length_le (by omega)] at hq; unfold rowB allW; rw [hq]; simp; omega)
        exact ⟨by rw [hF] <;> rfl, HH20.below⟩

set_option maxRecDepth 100000 in
set_option maxHeartbeats 4000000 in
theorem impl_validMultiRule (es0 : List Value) (a0 : tMulti) (es1 : List Value) (a1 : tMultiRule) (w : World) (h0 : eMulti.R w (Old w) es0 a0) (h1 : eMultiRule.R w (Old w) es1 a1) (s0 : 1 ≤ a0.2.2.1 ∧ a0.2.2.1 ≤ 16) (s1 : 2 ≤ a0.2.1 ∧ a0.2.1 ≤ 3) :
    Calls Try.prog 209 #[.agg es0.toArray, .agg es1.toArray] w fun e w' => e = .returned (.bool (validMR a0 a1)) ∧ Below w.heap.size w w' := by
  have H0 := h0
  obtain ⟨Az0_3, cz0_3, rfl, gz0_0, gz0_1, gz0_2, gz0_3⟩ := shape_Multi h0
  have jz0_0 := gz0_0; unfold I64 at jz0_0
  have jz0_1 := gz0_1; unfold I64 at jz0_1
  have jz0_2 := gz0_2; unfold I64 at jz0_2
  have lz0_3 := gz0_3.len
  have H1 := h1
  obtain ⟨Az1_1, cz1_1, Az1_2, cz1_2, Az1_3, cz1_3, rfl, gz1_0, gz1_1, gz1_2, gz1_3, gz1_4⟩ := shape_MultiRule h1
  have jz1_0 := gz1_0; unfold I64 at jz1_0
  have lz1_1 := gz1_1.len
  have lz1_2 := gz1_2.len
  have lz1_3 := gz1_3.len
  have jz1_4 := gz1_4; unfold I64 at jz1_4
  have HH1 := Held.start Nob w
  refine enter (n := 62) Try.func209 rfl rfl rfl fun a_2 HE3 => ?_
  refine wp_seq ?_
  refine rg ?_
  refine pl fun K_4 hK5 => ?_
  refine st_box (cs := [.int .i64 (a0.1), .int .i64 (a0.2.1), .int .i64 (a0.2.2.1), .slice Az0_3 (a0.2.2.2.length) cz0_3]) HE3 HH1 rfl rfl (wt0 rfl) rfl fun q21 a_6 w' HE7 HH8 => hK5 _ _ ?_
  refine pl fun K_9 hK10 => ?_
  refine st_box (cs := [.int .i64 (a1.1), .slice Az1_1 (a1.2.1.length) cz1_1, .slice Az1_2 (a1.2.2.1.length) cz1_2, .slice Az1_3 (a1.2.2.2.1.length) cz1_3, .int .i64 (a1.2.2.2.2)]) HE7 HH8 rfl rfl (wt0 rfl) rfl fun q22 a_11 w' HE12 HH13 => hK10 _ _ ?_
  refine pl_x HE12 HH13 (wt0 rfl) (x_assign rfl) rfl rfl fun a_14 HE15 => ?_
  refine wpList_nil ?_
  clear a_2 HE3 HH1 K_4 hK5 a_6 HE7 HH8 a_11 HE12 hK10 K_9
  refine nrm ?_
  refine wp_seq ?_
  refine wp_seq ?_
  refine rg ?_
  refine pl_x HE15 HH13 (wt0 rfl) (x_fieldAddr fa_195_0 rfl) rfl rfl fun a_16 HE17 => ?_
  refine pl_x HE17 HH13 (wt0 rfl) (x_load1 tv_2 rfl (c_blk 0 rfl rfl)) rfl rfl fun a_18 HE19 => ?_
  refine pl_x HE19 HH13 (wt0 rfl) (x_fieldAddr fa_83_2 rfl) rfl rfl fun a_20 HE21 => ?_
  refine pl_x HE21 HH13 (wt0 rfl) (x_load1 tv_2 rfl (c_blk 1 rfl rfl)) rfl rfl fun a_22 HE23 => ?_
  refine pl_x HE23 HH13 (wt0 rfl) (x_sub rfl rfl (by exact ⟨by omega, by omega⟩)) rfl rfl fun a_24 HE25 => ?_
  refine pl fun K_26 hK27 => ?_
  refine st_call HE25 (wt0 rfl) rfl rfl rfl en_112 rfl rfl (impl_within a1.1 0 (a0.2.2.1 - 1) _ ) fun e w' hr => ?_
  obtain ⟨rfl, rfl⟩ := hr
  refine ⟨_, rfl, fun a_28 HE29 => hK27 _ _ ?_⟩
  refine pl_x HE29 HH13 (wt0 rfl) (x_not rfl) rfl rfl fun a_30 HE31 => ?_
  refine pl_x HE31 HH13 (wt0 rfl) (x_move rfl) rfl rfl fun a_32 HE33 => ?_
  rcases Bool.eq_false_or_eq_true ((withinB a1.1 0 (a0.2.2.1 - 1))) with hc24 | hc24
  · refine pl_x HE33 HH13 (wtT HE33 rfl rfl rfl (not_f hc24)) (x_fieldAddr fa_195_4 rfl) rfl rfl fun a_34 HE35 => ?_
    refine pl_x HE35 HH13 (wtT HE35 rfl rfl rfl (not_f hc24)) (x_load1 tv_2 rfl (c_blk 0 rfl rfl)) rfl rfl fun a_36 HE37 => ?_
    refine pl_x HE37 HH13 (wtT HE37 rfl rfl rfl (not_f hc24)) (x_fieldAddr fa_83_2 rfl) rfl rfl fun a_38 HE39 => ?_
    refine pl_x HE39 HH13 (wtT HE39 rfl rfl rfl (not_f hc24)) (x_load1 tv_2 rfl (c_blk 1 rfl rfl)) rfl rfl fun a_40 HE41 => ?_
    refine pl_x HE41 HH13 (wtT HE41 rfl rfl rfl (not_f hc24)) (x_sub rfl rfl (by exact ⟨by omega, by omega⟩)) rfl rfl fun a_42 HE43 => ?_
    refine pl fun K_44 hK45 => ?_
    refine st_call HE43 (wtT HE43 rfl rfl rfl (not_f hc24)) rfl rfl rfl en_112 rfl rfl (impl_within a1.2.2.2.2 0 (a0.2.2.1 - 1) _ ) fun e w' hr => ?_
    obtain ⟨rfl, rfl⟩ := hr
    refine ⟨_, rfl, fun a_46 HE47 => hK45 _ _ ?_⟩
    refine pl_x HE47 HH13 (wtT HE47 rfl rfl rfl (not_f hc24)) (x_not rfl) rfl rfl fun a_48 HE49 => ?_
    refine pl_x HE49 HH13 (wt0 rfl) (x_pickF rfl (not_f hc24) rfl) rfl rfl fun a_50 HE51 => ?_
    refine wpList_nil ?_
    clear a_14 HE15 a_16 HE17 a_18 HE19 a_20 HE21 a_22 HE23 a_24 HE25 a_28 HE29 a_30 HE31 a_32 HE33 a_34 HE35 a_36 HE37 a_38 HE39 a_40 HE41 K_26 hK27 a_42 HE43 a_46 HE47 a_48 HE49 hK45 K_44
    refine nrm ?_
    refine cnd_nb HE51 rfl (fun hc26 => ?_) (fun hc26 => ?_)
    · refine wp_seq ?_
      refine rg ?_
      refine pl_x HE51 HH13 (wt0 rfl) (x_assign rfl) rfl rfl fun a_52 HE53 => ?_
      refine wpList_nil ?_
      clear a_50 HE51
      refine nrm ?_
      refine wp_ret ?_
      refine (thn_ret ?_)
      refine ret1 HE53 rfl (rv_tmp rfl) ?_
      have hF : (validMR a0 a1) = false := by
        first | (simp [validMR, hc24, hc26]; done) | (unfold validMR; grind)
      exact ⟨by rw [hF] <;> rfl, HH13.below⟩
    · refine wp_skip ?_
      refine nrm ?_
      refine wp_seq ?_
      refine wp_seq ?_
      refine dr_start (Held Nob w [rBlk q22 195 [.int .i64 (a1.1), .slice Az1_1 (a1.2.1.length) cz1_1, .slice Az1_2 (a1.2.2.1.length) cz1_2, .slice Az1_3 (a1.2.2.2.1.length) cz1_3, .int .i64 (a1.2.2.2.2)], rBlk q21 83 [.int .i64 (a0.1), .int .i64 (a0.2.1), .int .i64 (a0.2.2.1), .slice Az0_3 (a0.2.2.2.length) cz0_3]]) 22 #[false, false, false, false, false, false, false, false, false, false, false, false, false, false, false, false, false, false, false, false, false, false] hmix rfl rfl HH13 (fun _ h => h.sel [0, 1] (by decide) rfl) fun w' HH54 => ?_
      have HS55 := HH54
      refine dr_take (i := 0) (ls' := #[true, false, false, false, false, false, false, false, false, false, false, false, false, false, false, false, false, false, false, false, false, false]) HE51 HS55 rfl (by kernel_rfl) (by kernel_rfl) (by kernel_rfl) (fun _ _ _ h => h) rfl (wt0 rfl) (x_fieldAddr fa_195_1 rfl) rfl rfl fun a_56 HE57 => ?_
      refine dr_take (i := 1) (ls' := #[true, true, false, false, false, false, false, false, false, false, false, false, false, false, false, false, false, false, false, false, false, false]) HE57 HS55 rfl (by kernel_rfl) (by kernel_rfl) (by kernel_rfl) (fun _ _ _ h => h) rfl (wt0 rfl) (x_load1 tv_31 rfl (c_blk 0 rfl rfl)) rfl rfl fun a_58 HE59 => ?_
      refine dr_take (i := 3) (ls' := #[true, true, false, true, false, false, false, false, false, false, false, false, false, false, false, false, false, false, false, false, false, false]) HE59 HS55 rfl (by kernel_rfl) (by kernel_rfl) (by kernel_rfl) (fun _ _ _ h => h) rfl (wt0 rfl) (x_fieldAddr fa_83_0 rfl) rfl rfl fun a_60 HE61 => ?_
      refine dr_take (i := 4) (ls' := #[true, true, false, true, true, false, false, false, false, false, false, false, false, false, false, false, false, false, false, false, false, false]) HE61 HS55 rfl (by kernel_rfl) (by kernel_rfl) (by kernel_rfl) (fun _ _ _ h => h) rfl (wt0 rfl) (x_load1 tv_2 rfl (c_blk 1 rfl rfl)) rfl rfl fun a_62 HE63 => ?_
      refine dr_one (i := 2) (ls' := #[true, true, true, true, true, false, false, false, false, false, false, false, false, false, false, false, false, false, false, false, false, false]) rfl (by kernel_rfl) rfl fun K_64 hK65 => ?_
      refine st_call HE63 (wt0 rfl) rfl rfl rfl en_221 rfl rfl (impl_size_Int64 _ _ _ _) fun e w' hr => ?_
      obtain ⟨rfl, rfl⟩ := hr
      refine ⟨_, rfl, fun a_66 HE67 => hK65 _ _ (by exact HH54.sel [0, 1] (by decide) rfl) ?_⟩
      have HS68 := HH54.sel [0, 1] (by decide) rfl
      refine dr_take (i := 5) (ls' := #[true, true, true, true, true, true, false, false, false, false, false, false, false, false, false, false, false, false, false, false, false, false]) HE67 HS68 rfl (by kernel_rfl) (by kernel_rfl) (by kernel_rfl) (fun _ _ _ h => h) rfl (wt0 rfl) (x_neq rfl rfl) rfl rfl fun a_69 HE70 => ?_
      refine dr_take (i := 6) (ls' := #[true, true, true, true, true, true, true, false, false, false, false, false, false, false, false, false, false, false, false, false, false, false]) HE70 HS68 rfl (by kernel_rfl) (by kernel_rfl) (by kernel_rfl) (fun _ _ _ h => h) rfl (wt0 rfl) (x_move rfl) rfl rfl fun a_71 HE72 => ?_
      by_cases hc28 : ¬ (a1.2.1.length : Int) = a0.1
      · refine dr_takeNo (i := 7) (ls' := #[true, true, true, true, true, true, true, true, false, false, false, false, false, false, false, false, false, false, false, false, false, false]) HE72 HS68 rfl (by kernel_rfl) (by kernel_rfl) (by kernel_rfl) (fun _ _ _ h => h) rfl (wtF HE72 rfl rfl rfl (bne_t hc28)) rfl rfl fun a_73 HE74 => ?_
        refine dr_takeNo (i := 8) (ls' := #[true, true, true, true, true, true, true, true, true, false, false, false, false, false, false, false, false, false, false, false, false, false]) HE74 HS68 rfl (by kernel_rfl) (by kernel_rfl) (by kernel_rfl) (fun _ _ _ h => h) rfl (wtF HE74 rfl rfl rfl (bne_t hc28)) rfl rfl fun a_75 HE76 => ?_
        refine dr_takeNo (i := 9) (ls' := #[true, true, true, true, true, true, true, true, true, true, false, false, false, false, false, false, false, false, false, false, false, false]) HE76 HS68 rfl (by kernel_rfl) (by kernel_rfl) (by kernel_rfl) (fun _ _ _ h => h) rfl (wtF HE76 rfl rfl rfl (bne_t hc28)) rfl rfl fun a_77 HE78 => ?_
        refine dr_takeNo (i := 10) (ls' := #[true, true, true, true, true, true, true, true, true, true, true, false, false, false, false, false, false, false, false, false, false, false]) HE78 HS68 rfl (by kernel_rfl) (by kernel_rfl) (by kernel_rfl) (fun _ _ _ h => h) rfl (wtF HE78 rfl rfl rfl (bne_t hc28)) rfl rfl fun a_79 HE80 => ?_
        refine dr_takeNo (i := 11) (ls' := #[true, true, true, true, true, true, true, true, true, true, true, true, false, false, false, false, false, false, false, false, false, false]) HE80 HS68 rfl (by kernel_rfl) (by kernel_rfl) (by kernel_rfl) (fun _ _ _ h => h) rfl (wtF HE80 rfl rfl rfl (bne_t hc28)) rfl rfl fun a_81 HE82 => ?_
        refine dr_takeNo (i := 12) (ls' := #[true, true, true, true, true, true, true, true, true, true, true, true, true, false, false, false, false, false, false, false, false, false]) HE82 HS68 rfl (by kernel_rfl) (by kernel_rfl) (by kernel_rfl) (fun _ _ _ h => h) rfl (wtF HE82 rfl rfl rfl (bne_t hc28)) rfl rfl fun a_83 HE84 => ?_
        refine dr_take (i := 13) (ls' := #[true, true, true, true, true, true, true, true, true, true, true, true, true, true, false, false, false, false, false, false, false, false]) HE84 HS68 rfl (by kernel_rfl) (by kernel_rfl) (by kernel_rfl) (fun _ _ _ h => h) rfl (wt0 rfl) (x_pickT rfl (bne_t hc28) rfl) rfl rfl fun a_85 HE86 => ?_
        refine dr_take (i := 14) (ls' := #[true, true, true, true, true, true, true, true, true, true, true, true, true, true, true, false, false, false, false, false, false, false]) HE86 HS68 rfl (by kernel_rfl) (by kernel_rfl) (by kernel_rfl) (fun _ _ _ h => h) rfl (wt0 rfl) (x_move rfl) rfl rfl fun a_87 HE88 => ?_
        refine dr_takeNo (i := 15) (ls' := #[true, true, true, true, true, true, true, true, true, true, true, true, true, true, true, true, false, false, false, false, false, false]) HE88 HS68 rfl (by kernel_rfl) (by kernel_rfl) (by kernel_rfl) (fun _ _ _ h => h) rfl (wtF HE88 rfl rfl rfl rfl) rfl rfl fun a_89 HE90 => ?_
        refine dr_takeNo (i := 16) (ls' := #[true, true, true, true, true, true, true, true, true, true, true, true, true, true, true, true, true, false, false, false, false, false]) HE90 HS68 rfl (by kernel_rfl) (by kernel_rfl) (by kernel_rfl) (fun _ _ _ h => h) rfl (wtF HE90 rfl rfl rfl rfl) rfl rfl fun a_91 HE92 => ?_
        refine dr_takeNo (i := 17) (ls' := #[true, true, true, true, true, true, true, true, true, true, true, true, true, true, true, true, true, true, false, false, false, false]) HE92 HS68 rfl (by kernel_rfl) (by kernel_rfl) (by kernel_rfl) (fun _ _ _ h => h) rfl (wtF HE92 rfl rfl rfl rfl) rfl rfl fun a_93 HE94 => ?_
        refine dr_takeNo (i := 18) (ls' := #[true, true, true, true, true, true, true, true, true, true, true, true, true, true, true, true, true, true, true, false, false, false]) HE94 HS68 rfl (by kernel_rfl) (by kernel_rfl) (by kernel_rfl) (fun _ _ _ h => h) rfl (wtF HE94 rfl rfl rfl rfl) rfl rfl fun a_95 HE96 => ?_
        refine dr_takeNo (i := 19) (ls' := #[true, true, true, true, true, true, true, true, true, true, true, true, true, true, true, true, true, true, true, true, false, false]) HE96 HS68 rfl (by kernel_rfl) (by kernel_rfl) (by kernel_rfl) (fun _ _ _ h => h) rfl (wtF HE96 rfl rfl rfl rfl) rfl rfl fun a_97 HE98 => ?_
        refine dr_takeNo (i := 20) (ls' := #[true, true, true, true, true, true, true, true, true, true, true, true, true, true, true, true, true, true, true, true, true, false]) HE98 HS68 rfl (by kernel_rfl) (by kernel_rfl) (by kernel_rfl) (fun _ _ _ h => h) rfl (wtF HE98 rfl rfl rfl rfl) rfl rfl fun a_99 HE100 => ?_
        refine dr_take (i := 21) (ls' := #[true, true, true, true, true, true, true, true, true, true, true, true, true, true, true, true, true, true, true, true, true, true]) HE100 HS68 rfl (by kernel_rfl) (by kernel_rfl) (by kernel_rfl) (fun _ _ _ h => h) rfl (wt0 rfl) (x_pickT rfl rfl rfl) rfl rfl fun a_101 HE102 => ?_
        refine dr_done (by kernel_rfl) ?_
        clear HH13 a_50 HE51 a_56 HE57 a_58 HE59 a_60 HE61 a_62 HE63 HS55 a_66 HE67 a_69 HE70 a_71 HE72 a_73 HE74 a_75 HE76 a_77 HE78 a_79 HE80 a_81 HE82 a_83 HE84 a_85 HE86 a_87 HE88 a_89 HE90 a_91 HE92 a_93 HE94 a_95 HE96 a_97 HE98 a_99 HE100 hK65 K_64
        refine nrm ?_
        refine cndT HE102 rfl rfl ?_
        refine wp_seq ?_
        refine rg ?_
        refine pl_x HE102 HH54 (wt0 rfl) (x_assign rfl) rfl rfl fun a_103 HE104 => ?_
        refine wpList_nil ?_
        clear a_101 HE102
        refine nrm ?_
        refine wp_ret ?_
        refine (thn_ret ?_)
        refine ret1 HE104 rfl (rv_tmp rfl) ?_
        have hF : (validMR a0 a1) = false := by
          first | (simp [validMR, hc24, hc26, hc28]; done) | (unfold validMR; grind)
        exact ⟨by rw [hF] <;> rfl, HH54.below⟩
      · replace hc28 := Classical.not_not.1 hc28
        refine dr_take (i := 7) (ls' := #[true, true, true, true, true, true, true, true, false, false, false, false, false, false, false, false, false, false, false, false, false, false]) HE72 HS68 rfl (by kernel_rfl) (by kernel_rfl) (by kernel_rfl) (fun _ _ _ h => h) rfl (wtT HE72 rfl rfl rfl (bne_f hc28)) (x_fieldAddr fa_195_2 rfl) rfl rfl fun a_105 HE106 => ?_
        refine dr_take (i := 8) (ls' := #[true, true, true, true, true, true, true, true, true, false, false, false, false, false, false, false, false, false, false, false, false, false]) HE106 HS68 rfl (by kernel_rfl) (by kernel_rfl) (by kernel_rfl) (fun _ _ _ h => h) rfl (wtT HE106 rfl rfl rfl (bne_f hc28)) (x_load1 tv_31 rfl (c_blk 0 rfl rfl)) rfl rfl fun a_107 HE108 => ?_
        refine dr_take (i := 10) (ls' := #[true, true, true, true, true, true, true, true, true, false, true, false, false, false, false, false, false, false, false, false, false, false]) HE108 HS68 rfl (by kernel_rfl) (by kernel_rfl) (by kernel_rfl) (fun _ _ _ h => h) rfl (wtT HE108 rfl rfl rfl (bne_f hc28)) (x_fieldAddr fa_83_0 rfl) rfl rfl fun a_109 HE110 => ?_
        refine dr_take (i := 11) (ls' := #[true, true, true, true, true, true, true, true, true, false, true, true, false, false, false, false, false, false, false, false, false, false]) HE110 HS68 rfl (by kernel_rfl) (by kernel_rfl) (by kernel_rfl) (fun _ _ _ h => h) rfl (wtT HE110 rfl rfl rfl (bne_f hc28)) (x_load1 tv_2 rfl (c_blk 1 rfl rfl)) rfl rfl fun a_111 HE112 => ?_
        refine dr_one (i := 9) (ls' := #[true, true, true, true, true, true, true, true, true, true, true, true, false, false, false, false, false, false, false, false, false, false]) rfl (by kernel_rfl) rfl fun K_113 hK114 => ?_
        refine st_call HE112 (wtT HE112 rfl rfl rfl (bne_f hc28)) rfl rfl rfl en_221 rfl rfl (impl_size_Int64 _ _ _ _) fun e w' hr => ?_
        obtain ⟨rfl, rfl⟩ := hr
        refine ⟨_, rfl, fun a_115 HE116 => hK114 _ _ (by exact HH54.sel [0, 1] (by decide) rfl) ?_⟩
        have HS117 := HH54.sel [0, 1] (by decide) rfl
        refine dr_take (i := 12) (ls' := #[true, true, true, true, true, true, true, true, true, true, true, true, true, false, false, false, false, false, false, false, false, false]) HE116 HS117 rfl (by kernel_rfl) (by kernel_rfl) (by kernel_rfl) (fun _ _ _ h => h) rfl (wtT HE116 rfl rfl rfl (bne_f hc28)) (x_neq rfl rfl) rfl rfl fun a_118 HE119 => ?_
        refine dr_take (i := 13) (ls' := #[true, true, true, true, true, true, true, true, true, true, true, true, true, true, false, false, false, false, false, false, false, false]) HE119 HS117 rfl (by kernel_rfl) (by kernel_rfl) (by kernel_rfl) (fun _ _ _ h => h) rfl (wt0 rfl) (x_pickF rfl (bne_f hc28) rfl) rfl rfl fun a_120 HE121 => ?_
        refine dr_take (i := 14) (ls' := #[true, true, true, true, true, true, true, true, true, true, true, true, true, true, true, false, false, false, false, false, false, false]) HE121 HS117 rfl (by kernel_rfl) (by kernel_rfl) (by kernel_rfl) (fun _ _ _ h => h) rfl (wt0 rfl) (x_move rfl) rfl rfl fun a_122 HE123 => ?_
        by_cases hc30 : ¬ (a1.2.2.1.length : Int) = a0.1
        · refine dr_takeNo (i := 15) (ls' := #[true, true, true, true, true, true, true, true, true, true, true, true, true, true, true, true, false, false, false, false, false, false]) HE123 HS117 rfl (by kernel_rfl) (by kernel_rfl) (by kernel_rfl) (fun _ _ _ h => h) rfl (wtF HE123 rfl rfl rfl (bne_t hc30)) rfl rfl fun a_124 HE125 => ?_
          refine dr_takeNo (i := 16) (ls' := #[true, true, true, true, true, true, true, true, true, true, true, true, true, true, true, true, true, false, false, false, false, false]) HE125 HS117 rfl (by kernel_rfl) (by kernel_rfl) (by kernel_rfl) (fun _ _ _ h => h) rfl (wtF HE125 rfl rfl rfl (bne_t hc30)) rfl rfl fun a_126 HE127 => ?_
          refine dr_takeNo (i := 17) (ls' := #[true, true, true, true, true, true, true, true, true, true, true, true, true, true, true, true, true, true, false, false, false, false]) HE127 HS117 rfl (by kernel_rfl) (by kernel_rfl) (by kernel_rfl) (fun _ _ _ h => h) rfl (wtF HE127 rfl rfl rfl (bne_t hc30)) rfl rfl fun a_128 HE129 => ?_
          refine dr_takeNo (i := 18) (ls' := #[true, true, true, true, true, true, true, true, true, true, true, true, true, true, true, true, true, true, true, false, false, false]) HE129 HS117 rfl (by kernel_rfl) (by kernel_rfl) (by kernel_rfl) (fun _ _ _ h => h) rfl (wtF HE129 rfl rfl rfl (bne_t hc30)) rfl rfl fun a_130 HE131 => ?_
          refine dr_takeNo (i := 19) (ls' := #[true, true, true, true, true, true, true, true, true, true, true, true, true, true, true, true, true, true, true, true, false, false]) HE131 HS117 rfl (by kernel_rfl) (by kernel_rfl) (by kernel_rfl) (fun _ _ _ h => h) rfl (wtF HE131 rfl rfl rfl (bne_t hc30)) rfl rfl fun a_132 HE133 => ?_
          refine dr_takeNo (i := 20) (ls' := #[true, true, true, true, true, true, true, true, true, true, true, true, true, true, true, true, true, true, true, true, true, false]) HE133 HS117 rfl (by kernel_rfl) (by kernel_rfl) (by kernel_rfl) (fun _ _ _ h => h) rfl (wtF HE133 rfl rfl rfl (bne_t hc30)) rfl rfl fun a_134 HE135 => ?_
          refine dr_take (i := 21) (ls' := #[true, true, true, true, true, true, true, true, true, true, true, true, true, true, true, true, true, true, true, true, true, true]) HE135 HS117 rfl (by kernel_rfl) (by kernel_rfl) (by kernel_rfl) (fun _ _ _ h => h) rfl (wt0 rfl) (x_pickT rfl (bne_t hc30) rfl) rfl rfl fun a_136 HE137 => ?_
          refine dr_done (by kernel_rfl) ?_
          clear HH13 a_50 HE51 a_56 HE57 a_58 HE59 a_60 HE61 a_62 HE63 HS55 a_66 HE67 a_69 HE70 a_71 HE72 a_105 HE106 a_107 HE108 a_109 HE110 K_64 hK65 a_111 HE112 HS68 a_115 HE116 a_118 HE119 a_120 HE121 a_122 HE123 a_124 HE125 a_126 HE127 a_128 HE129 a_130 HE131 a_132 HE133 a_134 HE135 hK114 K_113
          refine nrm ?_
          refine cndT HE137 rfl rfl ?_
          refine wp_seq ?_
          refine rg ?_
          refine pl_x HE137 HH54 (wt0 rfl) (x_assign rfl) rfl rfl fun a_138 HE139 => ?_
          refine wpList_nil ?_
          clear a_136 HE137
          refine nrm ?_
          refine wp_ret ?_
          refine (thn_ret ?_)
          refine ret1 HE139 rfl (rv_tmp rfl) ?_
          have hF : (validMR a0 a1) = false := by
            first | (simp [validMR, hc24, hc26, hc28, hc30]; done) | (unfold validMR; grind)
          exact ⟨by rw [hF] <;> rfl, HH54.below⟩
        · replace hc30 := Classical.not_not.1 hc30
          refine dr_take (i := 15) (ls' := #[true, true, true, true, true, true, true, true, true, true, true, true, true, true, true, true, false, false, false, false, false, false]) HE123 HS117 rfl (by kernel_rfl) (by kernel_rfl) (by kernel_rfl) (fun _ _ _ h => h) rfl (wtT HE123 rfl rfl rfl (bne_f hc30)) (x_fieldAddr fa_195_3 rfl) rfl rfl fun a_140 HE141 => ?_
          refine dr_take (i := 16) (ls' := #[true, true, true, true, true, true, true, true, true, true, true, true, true, true, true, true, true, false, false, false, false, false]) HE141 HS117 rfl (by kernel_rfl) (by kernel_rfl) (by kernel_rfl) (fun _ _ _ h => h) rfl (wtT HE141 rfl rfl rfl (bne_f hc30)) (x_load1 tv_31 rfl (c_blk 0 rfl rfl)) rfl rfl fun a_142 HE143 => ?_
          refine dr_take (i := 18) (ls' := #[true, true, true, true, true, true, true, true, true, true, true, true, true, true, true, true, true, false, true, false, false, false]) HE143 HS117 rfl (by kernel_rfl) (by kernel_rfl) (by kernel_rfl) (fun _ _ _ h => h) rfl (wtT HE143 rfl rfl rfl (bne_f hc30)) (x_fieldAddr fa_83_0 rfl) rfl rfl fun a_144 HE145 => ?_
          refine dr_take (i := 19) (ls' := #[true, true, true, true, true, true, true, true, true, true, true, true, true, true, true, true, true, false, true, true, false, false]) HE145 HS117 rfl (by kernel_rfl) (by kernel_rfl) (by kernel_rfl) (fun _ _ _ h => h) rfl (wtT HE145 rfl rfl rfl (bne_f hc30)) (x_load1 tv_2 rfl (c_blk 1 rfl rfl)) rfl rfl fun a_146 HE147 => ?_
          refine dr_one (i := 17) (ls' := #[true, true, true, true, true, true, true, true, true, true, true, true, true, true, true, true, true, true, true, true, false, false]) rfl (by kernel_rfl) rfl fun K_148 hK149 => ?_
          refine st_call HE147 (wtT HE147 rfl rfl rfl (bne_f hc30)) rfl rfl rfl en_221 rfl rfl (impl_size_Int64 _ _ _ _) fun e w' hr => ?_
          obtain ⟨rfl, rfl⟩ := hr
          refine ⟨_, rfl, fun a_150 HE151 => hK149 _ _ (by exact HH54.sel [0, 1] (by decide) rfl) ?_⟩
          have HS152 := HH54.sel [0, 1] (by decide) rfl
          refine dr_take (i := 20) (ls' := #[true, true, true, true, true, true, true, true, true, true, true, true, true, true, true, true, true, true, true, true, true, false]) HE151 HS152 rfl (by kernel_rfl) (by kernel_rfl) (by kernel_rfl) (fun _ _ _ h => h) rfl (wtT HE151 rfl rfl rfl (bne_f hc30)) (x_neq rfl rfl) rfl rfl fun a_153 HE154 => ?_
          refine dr_take (i := 21) (ls' := #[true, true, true, true, true, true, true, true, true, true, true, true, true, true, true, true, true, true, true, true, true, true]) HE154 HS152 rfl (by kernel_rfl) (by kernel_rfl) (by kernel_rfl) (fun _ _ _ h => h) rfl (wt0 rfl) (x_pickF rfl (bne_f hc30) rfl) rfl rfl fun a_155 HE156 => ?_
          refine dr_done (by kernel_rfl) ?_
          clear HH13 a_50 HE51 a_56 HE57 a_58 HE59 a_60 HE61 a_62 HE63 HS55 a_66 HE67 a_69 HE70 a_71 HE72 a_105 HE106 a_107 HE108 a_109 HE110 K_64 hK65 a_111 HE112 HS68 a_115 HE116 a_118 HE119 a_120 HE121 a_122 HE123 a_140 HE141 a_142 HE143 a_144 HE145 K_113 hK114 a_146 HE147 HS117 a_150 HE151 a_153 HE154 hK149 K_148
          refine nrm ?_
          refine cnd_ne HE156 rfl (fun hc32 => ?_) (fun hc32 => ?_)
          · refine wp_seq ?_
            refine rg ?_
            refine pl_x HE156 HH54 (wt0 rfl) (x_assign rfl) rfl rfl fun a_157 HE158 => ?_
            refine wpList_nil ?_
            clear a_155 HE156
            refine nrm ?_
            refine wp_ret ?_
            refine (thn_ret ?_)
            refine ret1 HE158 rfl (rv_tmp rfl) ?_
            have hF : (validMR a0 a1) = false := by
              first | (simp [validMR, hc24, hc26, hc28, hc30, hc32]; done) | (unfold validMR; grind)
            exact ⟨by rw [hF] <;> rfl, HH54.below⟩
          · refine wp_skip ?_
            refine nrm ?_
            refine wp_seq ?_
            refine rg ?_
            refine pl_x HE156 HH54 (wt0 rfl) (x_fieldAddr fa_195_1 rfl) rfl rfl fun a_159 HE160 => ?_
            refine pl_x HE160 HH54 (wt0 rfl) (x_load1 tv_31 rfl (c_blk 0 rfl rfl)) rfl rfl fun a_161 HE162 => ?_
            refine pl_x HE162 HH54 (wt0 rfl) (x_fieldAddr fa_83_1 rfl) rfl rfl fun a_163 HE164 => ?_
            refine pl_x HE164 HH54 (wt0 rfl) (x_load1 tv_2 rfl (c_blk 1 rfl rfl)) rfl rfl fun a_165 HE166 => ?_
            refine pl_x HE166 HH54 (wt0 rfl) (x_sub rfl rfl (by exact ⟨by omega, by omega⟩)) rfl rfl fun a_167 HE168 => ?_
            refine pl fun K_169 hK170 => ?_
            refine st_call HE168 (wt0 rfl) rfl rfl rfl en_150 rfl rfl (impl_allWithin _ _ a1.2.1 0 (a0.2.1 - 1) _ (HH54.old gz1_1)) fun e w' hr => ?_
            obtain ⟨rfl, rfl⟩ := hr
            refine ⟨_, rfl, fun a_171 HE172 => hK170 _ _ ?_⟩
            refine pl_x HE172 HH54 (wt0 rfl) (x_move rfl) rfl rfl fun a_173 HE174 => ?_
            rcases Bool.eq_false_or_eq_true ((allW a1.2.1 0 (a0.2.1 - 1))) with hc34 | hc34
            · refine pl_x HE174 HH54 (wtT HE174 rfl rfl rfl hc34) (x_fieldAddr fa_195_2 rfl) rfl rfl fun a_175 HE176 => ?_
              refine pl_x HE176 HH54 (wtT HE176 rfl rfl rfl hc34) (x_load1 tv_31 rfl (c_blk 0 rfl rfl)) rfl rfl fun a_177 HE178 => ?_
              refine pl_x HE178 HH54 (wtT HE178 rfl rfl rfl hc34) (x_fieldAddr fa_83_1 rfl) rfl rfl fun a_179 HE180 => ?_
              refine pl_x HE180 HH54 (wtT HE180 rfl rfl rfl hc34) (x_load1 tv_2 rfl (c_blk 1 rfl rfl)) rfl rfl fun a_181 HE182 => ?_
              refine pl_x HE182 HH54 (wtT HE182 rfl rfl rfl hc34) (x_sub rfl rfl (by exact ⟨by omega, by omega⟩)) rfl rfl fun a_183 HE184 => ?_
              refine pl fun K_185 hK186 => ?_
              refine st_call HE184 (wtT HE184 rfl rfl rfl hc34) rfl rfl rfl en_150 rfl rfl (impl_allWithin _ _ a1.2.2.1 0 (a0.2.1 - 1) _ (HH54.old gz1_2)) fun e w' hr => ?_
              obtain ⟨rfl, rfl⟩ := hr
              refine ⟨_, rfl, fun a_187 HE188 => hK186 _ _ ?_⟩
              refine pl_x HE188 HH54 (wt0 rfl) (x_pickT rfl hc34 rfl) rfl rfl fun a_189 HE190 => ?_
              refine pl_x HE190 HH54 (wt0 rfl) (x_move rfl) rfl rfl fun a_191 HE192 => ?_
              rcases Bool.eq_false_or_eq_true ((allW a1.2.2.1 0 (a0.2.1 - 1))) with hc36 | hc36
              · refine pl_x HE192 HH54 (wtT HE192 rfl rfl rfl hc36) (x_fieldAddr fa_195_3 rfl) rfl rfl fun a_193 HE194 => ?_
                refine pl_x HE194 HH54 (wtT HE194 rfl rfl rfl hc36) (x_load1 tv_31 rfl (c_blk 0 rfl rfl)) rfl rfl fun a_195 HE196 => ?_
                refine pl fun K_197 hK198 => ?_
                refine st_call HE196 (wtT HE196 rfl rfl rfl hc36) rfl rfl rfl en_150 rfl rfl (impl_allWithin _ _ a1.2.2.2.1 (-1) 1 _ (HH54.old gz1_3)) fun e w' hr => ?_
                obtain ⟨rfl, rfl⟩ := hr
                refine ⟨_, rfl, fun a_199 HE200 => hK198 _ _ ?_⟩
                refine pl_x HE200 HH54 (wt0 rfl) (x_pickT rfl hc36 rfl) rfl rfl fun a_201 HE202 => ?_
                refine pl_x HE202 HH54 (wt0 rfl) (x_assign rfl) rfl rfl fun a_203 HE204 => ?_
                refine wpList_nil ?_
                clear a_155 HE156 a_159 HE160 a_161 HE162 a_163 HE164 a_165 HE166 a_167 HE168 a_171 HE172 a_173 HE174 a_175 HE176 a_177 HE178 a_179 HE180 a_181 HE182 K_169 hK170 a_183 HE184 a_187 HE188 a_189 HE190 a_191 HE192 a_193 HE194 K_185 hK186 a_195 HE196 a_199 HE200 a_201 HE202 hK198 K_197
                refine nrm ?_
                refine wp_ret ?_
                refine ret1 HE204 rfl (rv_tmp rfl) ?_
                have hF : (validMR a0 a1) = (allW a1.2.2.2.1 (-1) 1) := by
                  first | (simp [validMR, hc24, hc26, hc28, hc30, hc32, hc34, hc36]; done) | (unfold validMR; grind)
                exact ⟨by rw [hF] <;> rfl, HH54.below⟩
              · refine pl_no HE192 (wtF HE192 rfl rfl rfl hc36) rfl rfl fun a_205 HE206 => ?_
                refine pl_no HE206 (wtF HE206 rfl rfl rfl hc36) rfl rfl fun a_207 HE208 => ?_
                refine pl_no HE208 (wtF HE208 rfl rfl rfl hc36) rfl rfl fun a_209 HE210 => ?_
                refine pl_x HE210 HH54 (wt0 rfl) (x_pickF rfl hc36 rfl) rfl rfl fun a_211 HE212 => ?_
                refine pl_x HE212 HH54 (wt0 rfl) (x_assign rfl) rfl rfl fun a_213 HE214 => ?_
                refine wpList_nil ?_
                clear a_155 HE156 a_159 HE160 a_161 HE162 a_163 HE164 a_165 HE166 a_167 HE168 a_171 HE172 a_173 HE174 a_175 HE176 a_177 HE178 a_179 HE180 a_181 HE182 K_169 hK170 a_183 HE184 a_187 HE188 a_189 HE190 a_191 HE192 a_205 HE206 a_207 HE208 a_209 HE210 a_211 HE212 hK186 K_185
                refine nrm ?_
                refine wp_ret ?_
                refine ret1 HE214 rfl (rv_tmp rfl) ?_
                have hF : (validMR a0 a1) = false := by
                  first | (simp [validMR, hc24, hc26, hc28, hc30, hc32, hc34, hc36]; done) | (unfold validMR; grind)
                exact ⟨by rw [hF] <;> rfl, HH54.below⟩
            · refine pl_no HE174 (wtF HE174 rfl rfl rfl hc34) rfl rfl fun a_215 HE216 => ?_
              refine pl_no HE216 (wtF HE216 rfl rfl rfl hc34) rfl rfl fun a_217 HE218 => ?_
              refine pl_no HE218 (wtF HE218 rfl rfl rfl hc34) rfl rfl fun a_219 HE220 => ?_
              refine pl_no HE220 (wtF HE220 rfl rfl rfl hc34) rfl rfl fun a_221 HE222 => ?_
              refine pl_no HE222 (wtF HE222 rfl rfl rfl hc34) rfl rfl fun a_223 HE224 => ?_
              refine pl_no HE224 (wtF HE224 rfl rfl rfl hc34) rfl rfl fun a_225 HE226 => ?_
              refine pl_x HE226 HH54 (wt0 rfl) (x_pickF rfl hc34 rfl) rfl rfl fun a_227 HE228 => ?_
              refine pl_x HE228 HH54 (wt0 rfl) (x_move rfl) rfl rfl fun a_229 HE230 => ?_
              refine pl_no HE230 (wtF HE230 rfl rfl rfl rfl) rfl rfl fun a_231 HE232 => ?_
              refine pl_no HE232 (wtF HE232 rfl rfl rfl rfl) rfl rfl fun a_233 HE234 => ?_
              refine pl_no HE234 (wtF HE234 rfl rfl rfl rfl) rfl rfl fun a_235 HE236 => ?_
              refine pl_x HE236 HH54 (wt0 rfl) (x_pickF rfl rfl rfl) rfl rfl fun a_237 HE238 => ?_
              refine pl_x HE238 HH54 (wt0 rfl) (x_assign rfl) rfl rfl fun a_239 HE240 => ?_
              refine wpList_nil ?_
              clear a_155 HE156 a_159 HE160 a_161 HE162 a_163 HE164 a_165 HE166 a_167 HE168 a_171 HE172 a_173 HE174 a_215 HE216 a_217 HE218 a_219 HE220 a_221 HE222 a_223 HE224 a_225 HE226 a_227 HE228 a_229 HE230 a_231 HE232 a_233 HE234 a_235 HE236 a_237 HE238 hK170 K_169
              refine nrm ?_
              refine wp_ret ?_
              refine ret1 HE240 rfl (rv_tmp rfl) ?_
              have hF : (validMR a0 a1) = false := by
                first | (simp [validMR, hc24, hc26, hc28, hc30, hc32, hc34]; done) | (unfold validMR; grind)
              exact ⟨by rw [hF] <;> rfl, HH54.below⟩
  · refine pl_no HE33 (wtF HE33 rfl rfl rfl (not_t hc24)) rfl rfl fun a_241 HE242 => ?_
    refine pl_no HE242 (wtF HE242 rfl rfl rfl (not_t hc24)) rfl rfl fun a_243 HE244 => ?_
    refine pl_no HE244 (wtF HE244 rfl rfl rfl (not_t hc24)) rfl rfl fun a_245 HE246 => ?_
    refine pl_no HE246 (wtF HE246 rfl rfl rfl (not_t hc24)) rfl rfl fun a_247 HE248 => ?_
    refine pl_no HE248 (wtF HE248 rfl rfl rfl (not_t hc24)) rfl rfl fun a_249 HE250 => ?_
    refine pl_no HE250 (wtF HE250 rfl rfl rfl (not_t hc24)) rfl rfl fun a_251 HE252 => ?_
    refine pl_no HE252 (wtF HE252 rfl rfl rfl (not_t hc24)) rfl rfl fun a_253 HE254 => ?_
    refine pl_x HE254 HH13 (wt0 rfl) (x_pickT rfl (not_t hc24) rfl) rfl rfl fun a_255 HE256 => ?_
    refine wpList_nil ?_
    clear a_14 HE15 a_16 HE17 a_18 HE19 a_20 HE21 a_22 HE23 a_24 HE25 a_28 HE29 a_30 HE31 a_32 HE33 a_241 HE242 a_243 HE244 a_245 HE246 a_247 HE248 a_249 HE250 a_251 HE252 a_253 HE254 hK27 K_26
    refine nrm ?_
    refine cndT HE256 rfl rfl ?_
    refine wp_seq ?_
    refine rg ?_
    refine pl_x HE256 HH13 (wt0 rfl) (x_assign rfl) rfl rfl fun a_257 HE258 => ?_
    refine wpList_nil ?_
    clear a_255 HE256
    refine nrm ?_
    refine wp_ret ?_
    refine (thn_ret ?_)
    refine ret1 HE258 rfl (rv_tmp rfl) ?_
    have hF : (validMR a0 a1) = false := by
      first | (simp [validMR, hc24]; done) | (unfold validMR; grind)
    exact ⟨by rw [hF] <;> rfl, HH13.below⟩

set_option maxRecDepth 100000 in
set_option maxHeartbeats 4000000 in
theorem impl_ValidMulti (es0 : List Value) (a0 : tMulti) (w : World) (h0 : eMulti.R w (Old w) es0 a0) :
    Calls Try.prog 137 #[.agg es0.toArray] w fun e w' => e = .returned (.bool (validMulti a0)) ∧ Below w.heap.size w w' := by
  have H0 := h0
  obtain ⟨Az0_3, cz0_3, rfl, gz0_0, gz0_1, gz0_2, gz0_3⟩ := shape_Multi h0
  have jz0_0 := gz0_0; unfold I64 at jz0_0
  have jz0_1 := gz0_1; unfold I64 at jz0_1
  have jz0_2 := gz0_2; unfold I64 at jz0_2
  have lz0_3 := gz0_3.len
  have HH1 := Held.start Nob w
  refine enter (n := 55) Try.func137 rfl rfl rfl fun a_2 HE3 => ?_
  refine wp_seq ?_
  refine rg ?_
  refine pl fun K_4 hK5 => ?_
  refine st_box (cs := [.int .i64 (a0.1), .int .i64 (a0.2.1), .int .i64 (a0.2.2.1), .slice Az0_3 (a0.2.2.2.length) cz0_3]) HE3 HH1 rfl rfl (wt0 rfl) rfl fun q21 a_6 w' HE7 HH8 => hK5 _ _ ?_
  refine pl_x HE7 HH8 (wt0 rfl) (x_assign rfl) rfl rfl fun a_9 HE10 => ?_
  refine wpList_nil ?_
  clear a_2 HE3 HH1 a_6 HE7 hK5 K_4
  refine nrm ?_
  refine wp_seq ?_
  refine wp_seq ?_
  refine rg ?_
  refine pl_x HE10 HH8 (wt0 rfl) (x_fieldAddr fa_83_0 rfl) rfl rfl fun a_11 HE12 => ?_
  refine pl_x HE12 HH8 (wt0 rfl) (x_load1 tv_2 rfl (c_blk 0 rfl rfl)) rfl rfl fun a_13 HE14 => ?_
  refine pl fun K_15 hK16 => ?_
  refine st_call HE14 (wt0 rfl) rfl rfl rfl en_112 rfl rfl (impl_within a0.1 2 3 _ ) fun e w' hr => ?_
  obtain ⟨rfl, rfl⟩ := hr
  refine ⟨_, rfl, fun a_17 HE18 => hK16 _ _ ?_⟩
  refine pl_x HE18 HH8 (wt0 rfl) (x_not rfl) rfl rfl fun a_19 HE20 => ?_
  refine pl_x HE20 HH8 (wt0 rfl) (x_move rfl) rfl rfl fun a_21 HE22 => ?_
  rcases Bool.eq_false_or_eq_true ((withinB a0.1 2 3)) with hc23 | hc23
  · refine pl_x HE22 HH8 (wtT HE22 rfl rfl rfl (not_f hc23)) (x_fieldAddr fa_83_1 rfl) rfl rfl fun a_23 HE24 => ?_
    refine pl_x HE24 HH8 (wtT HE24 rfl rfl rfl (not_f hc23)) (x_load1 tv_2 rfl (c_blk 0 rfl rfl)) rfl rfl fun a_25 HE26 => ?_
    refine pl fun K_27 hK28 => ?_
    refine st_call HE26 (wtT HE26 rfl rfl rfl (not_f hc23)) rfl rfl rfl en_112 rfl rfl (impl_within a0.2.1 2 3 _ ) fun e w' hr => ?_
    obtain ⟨rfl, rfl⟩ := hr
    refine ⟨_, rfl, fun a_29 HE30 => hK28 _ _ ?_⟩
    refine pl_x HE30 HH8 (wtT HE30 rfl rfl rfl (not_f hc23)) (x_not rfl) rfl rfl fun a_31 HE32 => ?_
    refine pl_x HE32 HH8 (wt0 rfl) (x_pickF rfl (not_f hc23) rfl) rfl rfl fun a_33 HE34 => ?_
    refine pl_x HE34 HH8 (wt0 rfl) (x_move rfl) rfl rfl fun a_35 HE36 => ?_
    rcases Bool.eq_false_or_eq_true ((withinB a0.2.1 2 3)) with hc25 | hc25
    · have v1 := withinB_true.1 hc25
      refine pl_x HE36 HH8 (wtT HE36 rfl rfl rfl (not_f hc25)) (x_fieldAddr fa_83_2 rfl) rfl rfl fun a_37 HE38 => ?_
      refine pl_x HE38 HH8 (wtT HE38 rfl rfl rfl (not_f hc25)) (x_load1 tv_2 rfl (c_blk 0 rfl rfl)) rfl rfl fun a_39 HE40 => ?_
      refine pl fun K_41 hK42 => ?_
      refine st_call HE40 (wtT HE40 rfl rfl rfl (not_f hc25)) rfl rfl rfl en_112 rfl rfl (impl_within a0.2.2.1 1 16 _ ) fun e w' hr => ?_
      obtain ⟨rfl, rfl⟩ := hr
      refine ⟨_, rfl, fun a_43 HE44 => hK42 _ _ ?_⟩
      refine pl_x HE44 HH8 (wtT HE44 rfl rfl rfl (not_f hc25)) (x_not rfl) rfl rfl fun a_45 HE46 => ?_
      refine pl_x HE46 HH8 (wt0 rfl) (x_pickF rfl (not_f hc25) rfl) rfl rfl fun a_47 HE48 => ?_
      refine pl_x HE48 HH8 (wt0 rfl) (x_move rfl) rfl rfl fun a_49 HE50 => ?_
      rcases Bool.eq_false_or_eq_true ((withinB a0.2.2.1 1 16)) with hc27 | hc27
      · have v2 := withinB_true.1 hc27
        refine pl_x HE50 HH8 (wtT HE50 rfl rfl rfl (not_f hc27)) (x_fieldAddr fa_83_3 rfl) rfl rfl fun a_51 HE52 => ?_
        refine pl_x HE52 HH8 (wtT HE52 rfl rfl rfl (not_f hc27)) (x_load1 tv_81 rfl (c_blk 0 rfl rfl)) rfl rfl fun a_53 HE54 => ?_
        refine pl_x HE54 HH8 (wtT HE54 rfl rfl rfl (not_f hc27)) (x_len Try.underlying81 rfl) rfl rfl fun a_55 HE56 => ?_
        refine pl_x HE56 HH8 (wtT HE56 rfl rfl rfl (not_f hc27)) (x_gtr rfl rfl) rfl rfl fun a_57 HE58 => ?_
        refine pl_x HE58 HH8 (wt0 rfl) (x_pickF rfl (not_f hc27) rfl) rfl rfl fun a_59 HE60 => ?_
        refine wpList_nil ?_
        clear a_9 HE10 a_11 HE12 a_13 HE14 a_17 HE18 a_19 HE20 a_21 HE22 a_23 HE24 K_15 hK16 a_25 HE26 a_29 HE30 a_31 HE32 a_33 HE34 a_35 HE36 a_37 HE38 K_27 hK28 a_39 HE40 a_43 HE44 a_45 HE46 a_47 HE48 a_49 HE50 a_51 HE52 a_53 HE54 a_55 HE56 a_57 HE58 hK42 K_41
        refine nrm ?_
        refine cnd_d HE60 rfl (fun hc28 => ?_) (fun hc28 => ?_)
        · refine wp_seq ?_
          refine rg ?_
          refine pl_x HE60 HH8 (wt0 rfl) (x_assign rfl) rfl rfl fun a_61 HE62 => ?_
          refine wpList_nil ?_
          clear a_59 HE60
          refine nrm ?_
          refine wp_ret ?_
          refine (thn_ret ?_)
          refine ret1 HE62 rfl (rv_tmp rfl) ?_
          have hF : (validMulti a0) = false := by
            first | (simp [validMulti, hc23, hc25, hc27, hc28]; done) | (unfold validMulti; rw [decide_eq_false (by omega)]; simp) | (unfold validMulti; rw [rg_hit (by omega : k < a0.2.2.2.length) (by unfold badMR; grind [beforeMR, validMR, rowB])]; simp) | (have hq := p0_1; rw [show k = a0.2.2.2.length from by omega] at hq; unfold validMulti; rw [hq, decide_eq_true (by omega)]; simp [hc23, hc25, hc27, hc28])
          exact ⟨by rw [hF] <;> rfl, HH8.below⟩
        · refine wp_skip ?_
          refine nrm ?_
          refine wp_seq ?_
          refine wp_seq ?_
          refine rg ?_
          refine pl_x HE60 HH8 (wt0 rfl) (x_fieldAddr fa_83_3 rfl) rfl rfl fun a_63 HE64 => ?_
          refine pl_x HE64 HH8 (wt0 rfl) (x_load1 tv_81 rfl (c_blk 0 rfl rfl)) rfl rfl fun a_65 HE66 => ?_
          refine pl_x HE66 HH8 (wt0 rfl) (x_len Try.underlying81 rfl) rfl rfl fun a_67 HE68 => ?_
          refine pl_x HE68 HH8 (wt0 rfl) (x_move rfl) rfl rfl fun a_69 HE70 => ?_
          refine wpList_nil ?_
          clear a_59 HE60 a_63 HE64 a_65 HE66 a_67 HE68
          refine nrm ?_
          refine wp_block ?_
          refine lp (fun m a w' => ∃ (k : Nat), m = a0.2.2.2.length - k ∧ Env 55 [(30, .int .i64 (k : Int)), (1, .pointer (some ⟨q21, 0, none⟩)), (28, .slice Az0_3 (a0.2.2.2.length) cz0_3), (29, .int .i64 ((a0.2.2.2.length : Int)))] a ∧ Held Nob w [rBlk q21 83 [.int .i64 (a0.1), .int .i64 (a0.2.1), .int .i64 (a0.2.2.1), .slice Az0_3 (a0.2.2.2.length) cz0_3]] w' ∧ (k ≤ a0.2.2.2.length) ∧ ((List.range k).any (badMR a0) = false)) (a0.2.2.2.length - (0)) ?_ ?_
          · exact ⟨0, rfl, HE70.sub ⟨(lkI rfl (by first | rfl | omega | (simp [hc23, hc25, hc27, hc28]; done))), rfl, rfl, rfl, trivial⟩, (HH8.sel [0] (by decide) rfl), (by first | omega | assumption | (simp; done) | simp_all), (by rfl)⟩
          · rintro m a_71 w' ⟨k, rfl, HE72, HH73, p29_0, p29_1⟩
            refine wp_seq ?_
            refine rg ?_
            refine pl_x HE72 HH73 (wt0 rfl) (x_lss rfl rfl) rfl rfl fun a_74 HE75 => ?_
            refine wpList_nil ?_
            clear a_69 HE70 HH8 a_71 HE72
            refine nrm ?_
            refine wp_seq ?_
            refine cnd_d HE75 rfl (fun hc30 => ?_) (fun hc30 => ?_)
            · refine wp_skip ?_
              refine nrm ?_
              refine wp_seq ?_
              refine wp_block ?_
              refine wp_seq ?_
              refine rg ?_
              refine pl_x HE75 HH73 (wt0 rfl) (x_move rfl) rfl rfl fun a_76 HE77 => ?_
              have ke31 : k < a0.2.2.2.length := by omega
              obtain ⟨be31, fe31, ese31, Ae31, Re31, De31⟩ := el_old gz0_3 ke31
              obtain ⟨e31, xe31⟩ : ∃ x, x = a0.2.2.2[k] := ⟨_, rfl⟩
              rw [← xe31] at Re31
              have Qe31 := Re31
              obtain ⟨Ae31_1, ce31_1, Ae31_2, ce31_2, Ae31_3, ce31_3, rfl, ge31_0, ge31_1, ge31_2, ge31_3, ge31_4⟩ := shape_MultiRule Re31
              have je31_0 := ge31_0; unfold I64 at je31_0
              have le31_1 := ge31_1.len
              have le31_2 := ge31_2.len
              have le31_3 := ge31_3.len
              have je31_4 := ge31_4; unfold I64 at je31_4
              have ge31 : a0.2.2.2[k]?.getD default = e31 := by rw [List.getElem?_eq_getElem ke31, xe31]; rfl
              refine pl_x HE77 HH73 (wt0 rfl) (x_indexAddr ts_81 rfl rfl Ae31 rfl ke31) rfl rfl fun a_78 HE79 => ?_
              refine pl_x HE79 HH73 (wt0 rfl) (x_loadN (cs := [.int .i64 (e31.1), .slice Ae31_1 (e31.2.1.length) ce31_1, .slice Ae31_2 (e31.2.2.1.length) ce31_2, .slice Ae31_3 (e31.2.2.2.1.length) ce31_3, .int .i64 (e31.2.2.2.2)]) tv_195 rfl rfl (c_oldN De31)) rfl rfl fun a_80 HE81 => ?_
              refine pl fun K_82 hK83 => ?_
              refine st_alloc HE81 HH73 tv_195 (wt0 rfl) rfl fun q32 a_84 w' HE85 HH86 => hK83 _ _ ?_
              refine pl_x HE85 HH86 (wt0 rfl) (x_assign rfl) rfl rfl fun a_87 HE88 => ?_
              refine pl fun K_89 hK90 => ?_
              refine st_store (vs := [.int .i64 (e31.1), .slice Ae31_1 (e31.2.1.length) ce31_1, .slice Ae31_2 (e31.2.2.1.length) ce31_2, .slice Ae31_3 (e31.2.2.2.1.length) ce31_3, .int .i64 (e31.2.2.2.2)]) 0 HE88 HH86 tv_195 rfl rfl rfl rfl rfl rfl (by simp [Value.oneCell']) (wt0 rfl) fun w' HH91 => hK90 _ _ ?_
              refine wpList_nil ?_
              clear a_74 HE75 a_76 HE77 a_78 HE79 a_80 HE81 HH73 a_84 HE85 K_82 hK83 HH86 hK90 K_89
              refine nrm ?_
              refine wp_seq ?_
              refine dr_start (Held Nob w [rBlk q32 195 [.int .i64 (e31.1), .slice Ae31_1 (e31.2.1.length) ce31_1, .slice Ae31_2 (e31.2.2.1.length) ce31_2, .slice Ae31_3 (e31.2.2.2.1.length) ce31_3, .int .i64 (e31.2.2.2.2)], rBlk q21 83 [.int .i64 (a0.1), .int .i64 (a0.2.1), .int .i64 (a0.2.2.1), .slice Az0_3 (a0.2.2.2.length) cz0_3]]) 19 #[false, false, false, false, false, false, false, false, false, false, false, false, false, false, false, false, false, false, false] hmix rfl rfl HH91 (fun _ h => h.sel [0, 1] (by decide) rfl) fun w' HH92 => ?_
              have HS93 := HH92
              refine dr_take (i := 0) (ls' := #[true, false, false, false, false, false, false, false, false, false, false, false, false, false, false, false, false, false, false]) HE88 HS93 rfl (by kernel_rfl) (by kernel_rfl) (by kernel_rfl) (fun _ _ _ h => h) rfl (wt0 rfl) (x_loadN (cs := [.int .i64 (a0.1), .int .i64 (a0.2.1), .int .i64 (a0.2.2.1), .slice Az0_3 (a0.2.2.2.length) cz0_3]) tv_83 rfl rfl (c_blkN 1 rfl)) rfl rfl fun a_94 HE95 => ?_
              refine dr_take (i := 1) (ls' := #[true, true, false, false, false, false, false, false, false, false, false, false, false, false, false, false, false, false, false]) HE95 HS93 rfl (by kernel_rfl) (by kernel_rfl) (by kernel_rfl) (fun _ _ _ h => h) rfl (wt0 rfl) (x_loadN (cs := [.int .i64 (e31.1), .slice Ae31_1 (e31.2.1.length) ce31_1, .slice Ae31_2 (e31.2.2.1.length) ce31_2, .slice Ae31_3 (e31.2.2.2.1.length) ce31_3, .int .i64 (e31.2.2.2.2)]) tv_195 rfl rfl (c_blkN 0 rfl)) rfl rfl fun a_96 HE97 => ?_
              refine dr_one (i := 2) (ls' := #[true, true, true, false, false, false, false, false, false, false, false, false, false, false, false, false, false, false, false]) rfl (by kernel_rfl) rfl fun K_98 hK99 => ?_
              refine st_call HE97 (wt0 rfl) rfl rfl rfl en_209 rfl rfl (impl_validMultiRule [.int .i64 (a0.1), .int .i64 (a0.2.1), .int .i64 (a0.2.2.1), .slice Az0_3 (a0.2.2.2.length) cz0_3] a0 [.int .i64 (e31.1), .slice Ae31_1 (e31.2.1.length) ce31_1, .slice Ae31_2 (e31.2.2.1.length) ce31_2, .slice Ae31_3 (e31.2.2.2.1.length) ce31_3, .int .i64 (e31.2.2.2.2)] e31 _ (HH92.oldR H0) (HH92.oldR Qe31) (by omega) (by omega)) fun e w' hr => ?_
              obtain ⟨rfl, hbr33⟩ := hr
              have HH100 := HH92.on hbr33
              refine ⟨_, rfl, fun a_101 HE102 => hK99 _ _ (by exact HH100.sel [0, 1] (by decide) rfl) ?_⟩
              have HS103 := HH100.sel [0, 1] (by decide) rfl
              refine dr_take (i := 3) (ls' := #[true, true, true, true, false, false, false, false, false, false, false, false, false, false, false, false, false, false, false]) HE102 HS103 rfl (by kernel_rfl) (by kernel_rfl) (by kernel_rfl) (fun _ _ _ h => h) rfl (wt0 rfl) (x_not rfl) rfl rfl fun a_104 HE105 => ?_
              refine dr_take (i := 4) (ls' := #[true, true, true, true, true, false, false, false, false, false, false, false, false, false, false, false, false, false, false]) HE105 HS103 rfl (by kernel_rfl) (by kernel_rfl) (by kernel_rfl) (fun _ _ _ h => h) rfl (wt0 rfl) (x_move rfl) rfl rfl fun a_106 HE107 => ?_
              rcases Bool.eq_false_or_eq_true ((validMR a0 e31)) with hc34 | hc34
              · refine dr_take (i := 5) (ls' := #[true, true, true, true, true, true, false, false, false, false, false, false, false, false, false, false, false, false, false]) HE107 HS103 rfl (by kernel_rfl) (by kernel_rfl) (by kernel_rfl) (fun _ _ _ h => h) rfl (wtT HE107 rfl rfl rfl (not_f hc34)) (x_move rfl) rfl rfl fun a_108 HE109 => ?_
                refine dr_take (i := 6) (ls' := #[true, true, true, true, true, true, true, false, false, false, false, false, false, false, false, false, false, false, false]) HE109 HS103 rfl (by kernel_rfl) (by kernel_rfl) (by kernel_rfl) (fun _ _ _ h => h) rfl (wtT HE109 rfl rfl rfl (not_f hc34)) (x_gtr rfl rfl) rfl rfl fun a_110 HE111 => ?_
                refine dr_take (i := 7) (ls' := #[true, true, true, true, true, true, true, true, false, false, false, false, false, false, false, false, false, false, false]) HE111 HS103 rfl (by kernel_rfl) (by kernel_rfl) (by kernel_rfl) (fun _ _ _ h => h) rfl (wtT HE111 rfl rfl rfl (not_f hc34)) (x_move rfl) rfl rfl fun a_112 HE113 => ?_
                by_cases hc35 : 0 < (k : Int)
                · refine dr_take (i := 8) (ls' := #[true, true, true, true, true, true, true, true, true, false, false, false, false, false, false, false, false, false, false]) HE113 HS103 rfl (by kernel_rfl) (by kernel_rfl) (by kernel_rfl) (fun _ _ _ h => h) rfl (wtT HE113 rfl rfl rfl (decide_eq_true hc35)) (x_fieldAddr fa_83_3 rfl) rfl rfl fun a_114 HE115 => ?_
                  refine dr_take (i := 9) (ls' := #[true, true, true, true, true, true, true, true, true, true, false, false, false, false, false, false, false, false, false]) HE115 HS103 rfl (by kernel_rfl) (by kernel_rfl) (by kernel_rfl) (fun _ _ _ h => h) rfl (wtT HE115 rfl rfl rfl (decide_eq_true hc35)) (x_load1 tv_81 rfl (c_blk 1 rfl rfl)) rfl rfl fun a_116 HE117 => ?_
                  refine dr_take (i := 10) (ls' := #[true, true, true, true, true, true, true, true, true, true, true, false, false, false, false, false, false, false, false]) HE117 HS103 rfl (by kernel_rfl) (by kernel_rfl) (by kernel_rfl) (fun _ _ _ h => h) rfl (wtT HE117 rfl rfl rfl (decide_eq_true hc35)) (x_move rfl) rfl rfl fun a_118 HE119 => ?_
                  refine dr_take (i := 11) (ls' := #[true, true, true, true, true, true, true, true, true, true, true, true, false, false, false, false, false, false, false]) HE119 HS103 rfl (by kernel_rfl) (by kernel_rfl) (by kernel_rfl) (fun _ _ _ h => h) rfl (wtT HE119 rfl rfl rfl (decide_eq_true hc35)) (x_sub rfl rfl (by exact ⟨by omega, by omega⟩)) rfl rfl fun a_120 HE121 => ?_
                  have ke36 : (k - 1) < a0.2.2.2.length := by omega
                  obtain ⟨be36, fe36, ese36, Ae36, Re36, De36⟩ := el_old gz0_3 ke36
                  obtain ⟨e36, xe36⟩ : ∃ x, x = a0.2.2.2[(k - 1)] := ⟨_, rfl⟩
                  rw [← xe36] at Re36
                  have Qe36 := Re36
                  obtain ⟨Ae36_1, ce36_1, Ae36_2, ce36_2, Ae36_3, ce36_3, rfl, ge36_0, ge36_1, ge36_2, ge36_3, ge36_4⟩ := shape_MultiRule Re36
                  have je36_0 := ge36_0; unfold I64 at je36_0
                  have le36_1 := ge36_1.len
                  have le36_2 := ge36_2.len
                  have le36_3 := ge36_3.len
                  have je36_4 := ge36_4; unfold I64 at je36_4
                  have ge36 : a0.2.2.2[(k - 1)]?.getD default = e36 := by rw [List.getElem?_eq_getElem ke36, xe36]; rfl
                  refine dr_take (i := 12) (ls' := #[true, true, true, true, true, true, true, true, true, true, true, true, true, false, false, false, false, false, false]) HE121 HS103 rfl (by kernel_rfl) (by kernel_rfl) (by kernel_rfl) (fun _ _ _ h => h) rfl (wtT HE121 rfl rfl rfl (decide_eq_true hc35)) (x_indexAddr ts_81 rfl rfl Ae36 (by omega) ke36) rfl rfl fun a_122 HE123 => ?_
                  refine dr_take (i := 13) (ls' := #[true, true, true, true, true, true, true, true, true, true, true, true, true, true, false, false, false, false, false]) HE123 HS103 rfl (by kernel_rfl) (by kernel_rfl) (by kernel_rfl) (fun _ _ _ h => h) rfl (wtT HE123 rfl rfl rfl (decide_eq_true hc35)) (x_loadN (cs := [.int .i64 (e36.1), .slice Ae36_1 (e36.2.1.length) ce36_1, .slice Ae36_2 (e36.2.2.1.length) ce36_2, .slice Ae36_3 (e36.2.2.2.1.length) ce36_3, .int .i64 (e36.2.2.2.2)]) tv_195 rfl rfl (c_oldN De36)) rfl rfl fun a_124 HE125 => ?_
                  refine dr_take (i := 14) (ls' := #[true, true, true, true, true, true, true, true, true, true, true, true, true, true, true, false, false, false, false]) HE125 HS103 rfl (by kernel_rfl) (by kernel_rfl) (by kernel_rfl) (fun _ _ _ h => h) rfl (wtT HE125 rfl rfl rfl (decide_eq_true hc35)) (x_loadN (cs := [.int .i64 (e31.1), .slice Ae31_1 (e31.2.1.length) ce31_1, .slice Ae31_2 (e31.2.2.1.length) ce31_2, .slice Ae31_3 (e31.2.2.2.1.length) ce31_3, .int .i64 (e31.2.2.2.2)]) tv_195 rfl rfl (c_blkN 0 rfl)) rfl rfl fun a_126 HE127 => ?_
                  refine dr_one (i := 15) (ls' := #[true, true, true, true, true, true, true, true, true, true, true, true, true, true, true, true, false, false, false]) rfl (by kernel_rfl) rfl fun K_128 hK129 => ?_
                  refine st_call HE127 (wtT HE127 rfl rfl rfl (decide_eq_true hc35)) rfl rfl rfl en_210 rfl rfl (impl_compareMultiRules [.int .i64 (e36.1), .slice Ae36_1 (e36.2.1.length) ce36_1, .slice Ae36_2 (e36.2.2.1.length) ce36_2, .slice Ae36_3 (e36.2.2.2.1.length) ce36_3, .int .i64 (e36.2.2.2.2)] e36 [.int .i64 (e31.1), .slice Ae31_1 (e31.2.1.length) ce31_1, .slice Ae31_2 (e31.2.2.1.length) ce31_2, .slice Ae31_3 (e31.2.2.2.1.length) ce31_3, .int .i64 (e31.2.2.2.2)] e31 _ (HH100.oldR Qe36) (HH100.oldR Qe31)) fun e w' hr => ?_
                  obtain ⟨rfl, hbr37⟩ := hr
                  have HH130 := HH100.on hbr37
                  refine ⟨_, rfl, fun a_131 HE132 => hK129 _ _ (by exact HH130.sel [0, 1] (by decide) rfl) ?_⟩
                  have HS133 := HH130.sel [0, 1] (by decide) rfl
                  refine dr_take (i := 16) (ls' := #[true, true, true, true, true, true, true, true, true, true, true, true, true, true, true, true, true, false, false]) HE132 HS133 rfl (by kernel_rfl) (by kernel_rfl) (by kernel_rfl) (fun _ _ _ h => h) rfl (wtT HE132 rfl rfl rfl (decide_eq_true hc35)) (x_geq rfl rfl) rfl rfl fun a_134 HE135 => ?_
                  refine dr_take (i := 17) (ls' := #[true, true, true, true, true, true, true, true, true, true, true, true, true, true, true, true, true, true, false]) HE135 HS133 rfl (by kernel_rfl) (by kernel_rfl) (by kernel_rfl) (fun _ _ _ h => h) rfl (wtT HE135 rfl rfl rfl (not_f hc34)) (x_pickT rfl (decide_eq_true hc35) rfl) rfl rfl fun a_136 HE137 => ?_
                  refine dr_take (i := 18) (ls' := #[true, true, true, true, true, true, true, true, true, true, true, true, true, true, true, true, true, true, true]) HE137 HS133 rfl (by kernel_rfl) (by kernel_rfl) (by kernel_rfl) (fun _ _ _ h => h) rfl (wt0 rfl) (x_pickF rfl (not_f hc34) rfl) rfl rfl fun a_138 HE139 => ?_
                  refine dr_done (by kernel_rfl) ?_
                  clear HH91 a_87 HE88 a_94 HE95 HH92 a_96 HE97 HS93 a_101 HE102 a_104 HE105 a_106 HE107 a_108 HE109 a_110 HE111 a_112 HE113 a_114 HE115 a_116 HE117 a_118 HE119 a_120 HE121 a_122 HE123 a_124 HE125 K_98 hK99 HH100 a_126 HE127 HS103 a_131 HE132 a_134 HE135 a_136 HE137 hK129 K_128
                  refine nrm ?_
                  refine cnd_d HE139 rfl (fun hc38 => ?_) (fun hc38 => ?_)
                  · refine wp_seq ?_
                    refine rg ?_
                    refine pl_x HE139 HH130 (wt0 rfl) (x_assign rfl) rfl rfl fun a_140 HE141 => ?_
                    refine wpList_nil ?_
                    clear a_138 HE139
                    refine nrm ?_
                    refine wp_ret ?_
                    refine (blk_ret (thn_ret (thn_ret (blk_ret (thn_ret ?_)))))
                    refine ret1 HE141 rfl (rv_tmp rfl) ?_
                    have hF : (validMulti a0) = false := by
                      first | (simp [validMulti, hc23, hc25, hc27, hc28, p29_0, p29_1, hc30, xe31, hc34, hc35, xe36, hc38]; done) | (unfold validMulti; rw [decide_eq_false (by omega)]; simp) | (unfold validMulti; rw [rg_hit (by omega : k < a0.2.2.2.length) (by unfold badMR; grind [beforeMR, validMR, rowB])]; simp) | (have hq := p29_1; rw [show k = a0.2.2.2.length from by omega] at hq; unfold validMulti; rw [hq, decide_eq_true (by omega)]; simp [hc23, hc25, hc27, hc28, p29_0, p29_1, hc30, xe31, hc34, hc35, xe36, hc38])
                    exact ⟨by rw [hF] <;> rfl, HH130.below⟩
                  · refine wp_skip ?_
                    refine blk_n ?_
                    refine nrm ?_
                    refine rg ?_
                    refine pl_x HE139 HH130 (wt0 rfl) (x_add rfl rfl (by exact ⟨by omega, by omega⟩)) rfl rfl fun a_142 HE143 => ?_
                    refine pl_x HE143 HH130 (wt0 rfl) (x_move rfl) rfl rfl fun a_144 HE145 => ?_
                    refine wpList_nil ?_
                    clear a_138 HE139 a_142 HE143
                    exact nrm ⟨a0.2.2.2.length - (k + 1), (by omega), k + 1, rfl, HE145.sub ⟨(lkI rfl (by first | rfl | omega | (simp [hc23, hc25, hc27, hc28, p29_0, p29_1, hc30, xe31, hc34, hc35, xe36, hc38]; done))), rfl, rfl, rfl, trivial⟩, (HH130.sel [1] (by decide) rfl), (by first | omega | assumption | (simp; done) | simp_all), (by exact rg_step p29_1 (by unfold badMR; grind [beforeMR, validMR, rowB]))⟩
                · refine dr_takeNo (i := 8) (ls' := #[true, true, true, true, true, true, true, true, true, false, false, false, false, false, false, false, false, false, false]) HE113 HS103 rfl (by kernel_rfl) (by kernel_rfl) (by kernel_rfl) (fun _ _ _ h => h) rfl (wtF HE113 rfl rfl rfl (decide_eq_false hc35)) rfl rfl fun a_146 HE147 => ?_
                  refine dr_takeNo (i := 9) (ls' := #[true, true, true, true, true, true, true, true, true, true, false, false, false, false, false, false, false, false, false]) HE147 HS103 rfl (by kernel_rfl) (by kernel_rfl) (by kernel_rfl) (fun _ _ _ h => h) rfl (wtF HE147 rfl rfl rfl (decide_eq_false hc35)) rfl rfl fun a_148 HE149 => ?_
                  refine dr_takeNo (i := 10) (ls' := #[true, true, true, true, true, true, true, true, true, true, true, false, false, false, false, false, false, false, false]) HE149 HS103 rfl (by kernel_rfl) (by kernel_rfl) (by kernel_rfl) (fun _ _ _ h => h) rfl (wtF HE149 rfl rfl rfl (decide_eq_false hc35)) rfl rfl fun a_150 HE151 => ?_
                  refine dr_takeNo (i := 11) (ls' := #[true, true, true, true, true, true, true, true, true, true, true, true, false, false, false, false, false, false, false]) HE151 HS103 rfl (by kernel_rfl) (by kernel_rfl) (by kernel_rfl) (fun _ _ _ h => h) rfl (wtF HE151 rfl rfl rfl (decide_eq_false hc35)) rfl rfl fun a_152 HE153 => ?_
                  refine dr_takeNo (i := 12) (ls' := #[true, true, true, true, true, true, true, true, true, true, true, true, true, false, false, false, false, false, false]) HE153 HS103 rfl (by kernel_rfl) (by kernel_rfl) (by kernel_rfl) (fun _ _ _ h => h) rfl (wtF HE153 rfl rfl rfl (decide_eq_false hc35)) rfl rfl fun a_154 HE155 => ?_
                  refine dr_takeNo (i := 13) (ls' := #[true, true, true, true, true, true, true, true, true, true, true, true, true, true, false, false, false, false, false]) HE155 HS103 rfl (by kernel_rfl) (by kernel_rfl) (by kernel_rfl) (fun _ _ _ h => h) rfl (wtF HE155 rfl rfl rfl (decide_eq_false hc35)) rfl rfl fun a_156 HE157 => ?_
                  refine dr_takeNo (i := 14) (ls' := #[true, true, true, true, true, true, true, true, true, true, true, true, true, true, true, false, false, false, false]) HE157 HS103 rfl (by kernel_rfl) (by kernel_rfl) (by kernel_rfl) (fun _ _ _ h => h) rfl (wtF HE157 rfl rfl rfl (decide_eq_false hc35)) rfl rfl fun a_158 HE159 => ?_
                  refine dr_takeNo (i := 15) (ls' := #[true, true, true, true, true, true, true, true, true, true, true, true, true, true, true, true, false, false, false]) HE159 HS103 rfl (by kernel_rfl) (by kernel_rfl) (by kernel_rfl) (fun _ _ _ h => h) rfl (wtF HE159 rfl rfl rfl (decide_eq_false hc35)) rfl rfl fun a_160 HE161 => ?_
                  refine dr_takeNo (i := 16) (ls' := #[true, true, true, true, true, true, true, true, true, true, true, true, true, true, true, true, true, false, false]) HE161 HS103 rfl (by kernel_rfl) (by kernel_rfl) (by kernel_rfl) (fun _ _ _ h => h) rfl (wtF HE161 rfl rfl rfl (decide_eq_false hc35)) rfl rfl fun a_162 HE163 => ?_
                  refine dr_take (i := 17) (ls' := #[true, true, true, true, true, true, true, true, true, true, true, true, true, true, true, true, true, true, false]) HE163 HS103 rfl (by kernel_rfl) (by kernel_rfl) (by kernel_rfl) (fun _ _ _ h => h) rfl (wtT HE163 rfl rfl rfl (not_f hc34)) (x_pickF rfl (decide_eq_false hc35) rfl) rfl rfl fun a_164 HE165 => ?_
                  refine dr_take (i := 18) (ls' := #[true, true, true, true, true, true, true, true, true, true, true, true, true, true, true, true, true, true, true]) HE165 HS103 rfl (by kernel_rfl) (by kernel_rfl) (by kernel_rfl) (fun _ _ _ h => h) rfl (wt0 rfl) (x_pickF rfl (not_f hc34) rfl) rfl rfl fun a_166 HE167 => ?_
                  refine dr_done (by kernel_rfl) ?_
                  clear HH91 a_87 HE88 a_94 HE95 HH92 a_96 HE97 HS93 a_101 HE102 a_104 HE105 a_106 HE107 a_108 HE109 a_110 HE111 a_112 HE113 a_146 HE147 a_148 HE149 a_150 HE151 a_152 HE153 a_154 HE155 a_156 HE157 a_158 HE159 a_160 HE161 a_162 HE163 a_164 HE165 hK99 K_98
                  refine nrm ?_
                  refine cndF HE167 rfl rfl ?_
                  refine wp_skip ?_
                  refine blk_n ?_
                  refine nrm ?_
                  refine rg ?_
                  refine pl_x HE167 HH100 (wt0 rfl) (x_add rfl rfl (by exact ⟨by omega, by omega⟩)) rfl rfl fun a_168 HE169 => ?_
                  refine pl_x HE169 HH100 (wt0 rfl) (x_move rfl) rfl rfl fun a_170 HE171 => ?_
                  refine wpList_nil ?_
                  clear a_166 HE167 a_168 HE169
                  exact nrm ⟨a0.2.2.2.length - (k + 1), (by omega), k + 1, rfl, HE171.sub ⟨(lkI rfl (by first | rfl | omega | (simp [hc23, hc25, hc27, hc28, p29_0, p29_1, hc30, xe31, hc34, hc35]; done))), rfl, rfl, rfl, trivial⟩, (HH100.sel [1] (by decide) rfl), (by first | omega | assumption | (simp; done) | simp_all), (by exact rg_step p29_1 (by unfold badMR; grind [beforeMR, validMR, rowB]))⟩
              · refine dr_takeNo (i := 5) (ls' := #[true, true, true, true, true, true, false, false, false, false, false, false, false, false, false, false, false, false, false]) HE107 HS103 rfl (by kernel_rfl) (by kernel_rfl) (by kernel_rfl) (fun _ _ _ h => h) rfl (wtF HE107 rfl rfl rfl (not_t hc34)) rfl rfl fun a_172 HE173 => ?_
                refine dr_takeNo (i := 6) (ls' := #[true, true, true, true, true, true, true, false, false, false, false, false, false, false, false, false, false, false, false]) HE173 HS103 rfl (by kernel_rfl) (by kernel_rfl) (by kernel_rfl) (fun _ _ _ h => h) rfl (wtF HE173 rfl rfl rfl (not_t hc34)) rfl rfl fun a_174 HE175 => ?_
                refine dr_takeNo (i := 7) (ls' := #[true, true, true, true, true, true, true, true, false, false, false, false, false, false, false, false, false, false, false]) HE175 HS103 rfl (by kernel_rfl) (by kernel_rfl) (by kernel_rfl) (fun _ _ _ h => h) rfl (wtF HE175 rfl rfl rfl (not_t hc34)) rfl rfl fun a_176 HE177 => ?_
                refine dr_takeNo (i := 8) (ls' := #[true, true, true, true, true, true, true, true, true, false, false, false, false, false, false, false, false, false, false]) HE177 HS103 rfl (by kernel_rfl) (by kernel_rfl) (by kernel_rfl) (fun _ _ _ h => h) rfl (wtU HE177 rfl rfl rfl) rfl rfl fun a_178 HE179 => ?_
                refine dr_takeNo (i := 9) (ls' := #[true, true, true, true, true, true, true, true, true, true, false, false, false, false, false, false, false, false, false]) HE179 HS103 rfl (by kernel_rfl) (by kernel_rfl) (by kernel_rfl) (fun _ _ _ h => h) rfl (wtU HE179 rfl rfl rfl) rfl rfl fun a_180 HE181 => ?_
                refine dr_takeNo (i := 10) (ls' := #[true, true, true, true, true, true, true, true, true, true, true, false, false, false, false, false, false, false, false]) HE181 HS103 rfl (by kernel_rfl) (by kernel_rfl) (by kernel_rfl) (fun _ _ _ h => h) rfl (wtU HE181 rfl rfl rfl) rfl rfl fun a_182 HE183 => ?_
                refine dr_takeNo (i := 11) (ls' := #[true, true, true, true, true, true, true, true, true, true, true, true, false, false, false, false, false, false, false]) HE183 HS103 rfl (by kernel_rfl) (by kernel_rfl) (by kernel_rfl) (fun _ _ _ h => h) rfl (wtU HE183 rfl rfl rfl) rfl rfl fun a_184 HE185 => ?_
                refine dr_takeNo (i := 12) (ls' := #[true, true, true, true, true, true, true, true, true, true, true, true, true, false, false, false, false, false, false]) HE185 HS103 rfl (by kernel_rfl) (by kernel_rfl) (by kernel_rfl) (fun _ _ _ h => h) rfl (wtU HE185 rfl rfl rfl) rfl rfl fun a_186 HE187 => ?_
                refine dr_takeNo (i := 13) (ls' := #[true, true, true, true, true, true, true, true, true, true, true, true, true, true, false, false, false, false, false]) HE187 HS103 rfl (by kernel_rfl) (by kernel_rfl) (by kernel_rfl) (fun _ _ _ h => h) rfl (wtU HE187 rfl rfl rfl) rfl rfl fun a_188 HE189 => ?_
                refine dr_takeNo (i := 14) (ls' := #[true, true, true, true, true, true, true, true, true, true, true, true, true, true, true, false, false, false, false]) HE189 HS103 rfl (by kernel_rfl) (by kernel_rfl) (by kernel_rfl) (fun _ _ _ h => h) rfl (wtU HE189 rfl rfl rfl) rfl rfl fun a_190 HE191 => ?_
                refine dr_takeNo (i := 15) (ls' := #[true, true, true, true, true, true, true, true, true, true, true, true, true, true, true, true, false, false, false]) HE191 HS103 rfl (by kernel_rfl) (by kernel_rfl) (by kernel_rfl) (fun _ _ _ h => h) rfl (wtU HE191 rfl rfl rfl) rfl rfl fun a_192 HE193 => ?_
                refine dr_takeNo (i := 16) (ls' := #[true, true, true, true, true, true, true, true, true, true, true, true, true, true, true, true, true, false, false]) HE193 HS103 rfl (by kernel_rfl) (by kernel_rfl) (by kernel_rfl) (fun _ _ _ h => h) rfl (wtU HE193 rfl rfl rfl) rfl rfl fun a_194 HE195 => ?_
                refine dr_takeNo (i := 17) (ls' := #[true, true, true, true, true, true, true, true, true, true, true, true, true, true, true, true, true, true, false]) HE195 HS103 rfl (by kernel_rfl) (by kernel_rfl) (by kernel_rfl) (fun _ _ _ h => h) rfl (wtF HE195 rfl rfl rfl (not_t hc34)) rfl rfl fun a_196 HE197 => ?_
                refine dr_take (i := 18) (ls' := #[true, true, true, true, true, true, true, true, true, true, true, true, true, true, true, true, true, true, true]) HE197 HS103 rfl (by kernel_rfl) (by kernel_rfl) (by kernel_rfl) (fun _ _ _ h => h) rfl (wt0 rfl) (x_pickT rfl (not_t hc34) rfl) rfl rfl fun a_198 HE199 => ?_
                refine dr_done (by kernel_rfl) ?_
                clear HH91 a_87 HE88 a_94 HE95 HH92 a_96 HE97 HS93 a_101 HE102 a_104 HE105 a_106 HE107 a_172 HE173 a_174 HE175 a_176 HE177 a_178 HE179 a_180 HE181 a_182 HE183 a_184 HE185 a_186 HE187 a_188 HE189 a_190 HE191 a_192 HE193 a_194 HE195 a_196 HE197 hK99 K_98
                refine nrm ?_
                refine cndT HE199 rfl rfl ?_
                refine wp_seq ?_
                refine rg ?_
                refine pl_x HE199 HH100 (wt0 rfl) (x_assign rfl) rfl rfl fun a_200 HE201 => ?_
                refine wpList_nil ?_
                clear a_198 HE199
                refine nrm ?_
                refine wp_ret ?_
                refine (blk_ret (thn_ret (thn_ret (blk_ret (thn_ret ?_)))))
                refine ret1 HE201 rfl (rv_tmp rfl) ?_
                have hF : (validMulti a0) = false := by
                  first | (simp [validMulti, hc23, hc25, hc27, hc28, p29_0, p29_1, hc30, xe31, hc34]; done) | (unfold validMulti; rw [decide_eq_false (by omega)]; simp) | (unfold validMulti; rw [rg_hit (by omega : k < a0.2.2.2.length) (by unfold badMR; grind [beforeMR, validMR, rowB])]; simp) | (have hq := p29_1; rw [show k = a0.2.2.2.length from by omega] at hq; unfold validMulti; rw [hq, decide_eq_true (by omega)]; simp [hc23, hc25, hc27, hc28, p29_0, p29_1, hc30, xe31, hc34])
                exact ⟨by rw [hF] <;> rfl, HH100.below⟩
            · refine wp_exit ?_
              refine (thn_exit (thn_exit (blk_hit ?_)))
              refine nrm ?_
              refine wp_seq ?_
              refine rg ?_
              refine pl_x HE75 HH73 (wt0 rfl) (x_assign rfl) rfl rfl fun a_202 HE203 => ?_
              refine wpList_nil ?_
              clear a_74 HE75
              refine nrm ?_
              refine wp_ret ?_
              refine ret1 HE203 rfl (rv_tmp rfl) ?_
              have hF : (validMulti a0) = true := by
                first | (simp [validMulti, hc23, hc25, hc27, hc28, p29_0, p29_1, hc30]; done) | (unfold validMulti; rw [decide_eq_false (by omega)]; simp) | (unfold validMulti; rw [rg_hit (by omega : k < a0.2.2.2.length) (by unfold badMR; grind [beforeMR, validMR, rowB])]; simp) | (have hq := p29_1; rw [show k = a0.2.2.2.length from by omega] at hq; unfold validMulti; rw [hq, decide_eq_true (by omega)]; simp [hc23, hc25, hc27, hc28, p29_0, p29_1, hc30])
              exact ⟨by rw [hF] <;> rfl, HH73.below⟩
      · refine pl_no HE50 (wtF HE50 rfl rfl rfl (not_t hc27)) rfl rfl fun a_204 HE205 => ?_
        refine pl_no HE205 (wtF HE205 rfl rfl rfl (not_t hc27)) rfl rfl fun a_206 HE207 => ?_
        refine pl_no HE207 (wtF HE207 rfl rfl rfl (not_t hc27)) rfl rfl fun a_208 HE209 => ?_
        refine pl_no HE209 (wtF HE209 rfl rfl rfl (not_t hc27)) rfl rfl fun a_210 HE211 => ?_
        refine pl_x HE211 HH8 (wt0 rfl) (x_pickT rfl (not_t hc27) rfl) rfl rfl fun a_212 HE213 => ?_
        refine wpList_nil ?_
        clear a_9 HE10 a_11 HE12 a_13 HE14 a_17 HE18 a_19 HE20 a_21 HE22 a_23 HE24 K_15 hK16 a_25 HE26 a_29 HE30 a_31 HE32 a_33 HE34 a_35 HE36 a_37 HE38 K_27 hK28 a_39 HE40 a_43 HE44 a_45 HE46 a_47 HE48 a_49 HE50 a_204 HE205 a_206 HE207 a_208 HE209 a_210 HE211 hK42 K_41
        refine nrm ?_
        refine cndT HE213 rfl rfl ?_
        refine wp_seq ?_
        refine rg ?_
        refine pl_x HE213 HH8 (wt0 rfl) (x_assign rfl) rfl rfl fun a_214 HE215 => ?_
        refine wpList_nil ?_
        clear a_212 HE213
        refine nrm ?_
        refine wp_ret ?_
        refine (thn_ret ?_)
        refine ret1 HE215 rfl (rv_tmp rfl) ?_
        have hF : (validMulti a0) = false := by
          first | (simp [validMulti, hc23, hc25, hc27]; done) | (unfold validMulti; rw [decide_eq_false (by omega)]; simp) | (unfold validMulti; rw [rg_hit (by omega : k < a0.2.2.2.length) (by unfold badMR; grind [beforeMR, validMR, rowB])]; simp) | (have hq := p0_1; rw [show k = a0.2.2.2.length from by omega] at hq; unfold validMulti; rw [hq, decide_eq_true (by omega)]; simp [hc23, hc25, hc27])
        exact ⟨by rw [hF] <;> rfl, HH8.below⟩
    · refine pl_no HE36 (wtF HE36 rfl rfl rfl (not_t hc25)) rfl rfl fun a_216 HE217 => ?_
      refine pl_no HE217 (wtF HE217 rfl rfl rfl (not_t hc25)) rfl rfl fun a_218 HE219 => ?_
      refine pl_no HE219 (wtF HE219 rfl rfl rfl (not_t hc25)) rfl rfl fun a_220 HE221 => ?_
      refine pl_no HE221 (wtF HE221 rfl rfl rfl (not_t hc25)) rfl rfl fun a_222 HE223 => ?_
      refine pl_x HE223 HH8 (wt0 rfl) (x_pickT rfl (not_t hc25) rfl) rfl rfl fun a_224 HE225 => ?_
      refine pl_x HE225 HH8 (wt0 rfl) (x_move rfl) rfl rfl fun a_226 HE227 => ?_
      refine pl_no HE227 (wtF HE227 rfl rfl rfl rfl) rfl rfl fun a_228 HE229 => ?_
      refine pl_no HE229 (wtF HE229 rfl rfl rfl rfl) rfl rfl fun a_230 HE231 => ?_
      refine pl_no HE231 (wtF HE231 rfl rfl rfl rfl) rfl rfl fun a_232 HE233 => ?_
      refine pl_no HE233 (wtF HE233 rfl rfl rfl rfl) rfl rfl fun a_234 HE235 => ?_
      refine pl_x HE235 HH8 (wt0 rfl) (x_pickT rfl rfl rfl) rfl rfl fun a_236 HE237 => ?_
      refine wpList_nil ?_
      clear a_9 HE10 a_11 HE12 a_13 HE14 a_17 HE18 a_19 HE20 a_21 HE22 a_23 HE24 K_15 hK16 a_25 HE26 a_29 HE30 a_31 HE32 a_33 HE34 a_35 HE36 a_216 HE217 a_218 HE219 a_220 HE221 a_222 HE223 a_224 HE225 a_226 HE227 a_228 HE229 a_230 HE231 a_232 HE233 a_234 HE235 hK28 K_27
      refine nrm ?_
      refine cndT HE237 rfl rfl ?_
      refine wp_seq ?_
      refine rg ?_
      refine pl_x HE237 HH8 (wt0 rfl) (x_assign rfl) rfl rfl fun a_238 HE239 => ?_
      refine wpList_nil ?_
      clear a_236 HE237
      refine nrm ?_
      refine wp_ret ?_
      refine (thn_ret ?_)
      refine ret1 HE239 rfl (rv_tmp rfl) ?_
      have hF : (validMulti a0) = false := by
        first | (simp [validMulti, hc23, hc25]; done) | (unfold validMulti; rw [decide_eq_false (by omega)]; simp) | (unfold validMulti; rw [rg_hit (by omega : k < a0.2.2.2.length) (by unfold badMR; grind [beforeMR, validMR, rowB])]; simp) | (have hq := p0_1; rw [show k = a0.2.2.2.length from by omega] at hq; unfold validMulti; rw [hq, decide_eq_true (by omega)]; simp [hc23, hc25])
      exact ⟨by rw [hF] <;> rfl, HH8.below⟩
  · refine pl_no HE22 (wtF HE22 rfl rfl rfl (not_t hc23)) rfl rfl fun a_240 HE241 => ?_
    refine pl_no HE241 (wtF HE241 rfl rfl rfl (not_t hc23)) rfl rfl fun a_242 HE243 => ?_
    refine pl_no HE243 (wtF HE243 rfl rfl rfl (not_t hc23)) rfl rfl fun a_244 HE245 => ?_
    refine pl_no HE245 (wtF HE245 rfl rfl rfl (not_t hc23)) rfl rfl fun a_246 HE247 => ?_
    refine pl_x HE247 HH8 (wt0 rfl) (x_pickT rfl (not_t hc23) rfl) rfl rfl fun a_248 HE249 => ?_
    refine pl_x HE249 HH8 (wt0 rfl) (x_move rfl) rfl rfl fun a_250 HE251 => ?_
    refine pl_no HE251 (wtF HE251 rfl rfl rfl rfl) rfl rfl fun a_252 HE253 => ?_
    refine pl_no HE253 (wtF HE253 rfl rfl rfl rfl) rfl rfl fun a_254 HE255 => ?_
    refine pl_no HE255 (wtF HE255 rfl rfl rfl rfl) rfl rfl fun a_256 HE257 => ?_
    refine pl_no HE257 (wtF HE257 rfl rfl rfl rfl) rfl rfl fun a_258 HE259 => ?_
    refine pl_x HE259 HH8 (wt0 rfl) (x_pickT rfl rfl rfl) rfl rfl fun a_260 HE261 => ?_
    refine pl_x HE261 HH8 (wt0 rfl) (x_move rfl) rfl rfl fun a_262 HE263 => ?_
    refine pl_no HE263 (wtF HE263 rfl rfl rfl rfl) rfl rfl fun a_264 HE265 => ?_
    refine pl_no HE265 (wtF HE265 rfl rfl rfl rfl) rfl rfl fun a_266 HE267 => ?_
    refine pl_no HE267 (wtF HE267 rfl rfl rfl rfl) rfl rfl fun a_268 HE269 => ?_
    refine pl_no HE269 (wtF HE269 rfl rfl rfl rfl) rfl rfl fun a_270 HE271 => ?_
    refine pl_x HE271 HH8 (wt0 rfl) (x_pickT rfl rfl rfl) rfl rfl fun a_272 HE273 => ?_
    refine wpList_nil ?_
    clear a_9 HE10 a_11 HE12 a_13 HE14 a_17 HE18 a_19 HE20 a_21 HE22 a_240 HE241 a_242 HE243 a_244 HE245 a_246 HE247 a_248 HE249 a_250 HE251 a_252 HE253 a_254 HE255 a_256 HE257 a_258 HE259 a_260 HE261 a_262 HE263 a_264 HE265 a_266 HE267 a_268 HE269 a_270 HE271 hK16 K_15
    refine nrm ?_
    refine cndT HE273 rfl rfl ?_
    refine wp_seq ?_
    refine rg ?_
    refine pl_x HE273 HH8 (wt0 rfl) (x_assign rfl) rfl rfl fun a_274 HE275 => ?_
    refine wpList_nil ?_
    clear a_272 HE273
    refine nrm ?_
    refine wp_ret ?_
    refine (thn_ret ?_)
    refine ret1 HE275 rfl (rv_tmp rfl) ?_
    have hF : (validMulti a0) = false := by
      first | (simp [validMulti, hc23]; done) | (unfold validMulti; rw [decide_eq_false (by omega)]; simp) | (unfold validMulti; rw [rg_hit (by omega : k < a0.2.2.2.length) (by unfold badMR; grind [beforeMR, validMR, rowB])]; simp) | (have hq := p0_1; rw [show k = a0.2.2.2.length from by omega] at hq; unfold validMulti; rw [hq, decide_eq_true (by omega)]; simp [hc23])
    exact ⟨by rw [hF] <;> rfl, HH8.below⟩

end Go.Proofs.Ytnokeoejlfodkaa
