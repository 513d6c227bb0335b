/- FnExactSequenceMulti: for every input the law returns true, and each argument reads afterwards as it read before. No conditions. -/
import Derived.Test.YthfihlfjphiihaaRows
import Derived.Test.YthfihlfjphiihaaLSequenceMultij
import Derived.Test.YthfihlfjphiihaaQOpen
import Derived.Test.YthfihlfjphiihaaQSeat
import Derived.ShutString
import Derived.ChangeOld
namespace Go.Proofs.Ythfihlfjphiihaa.PSequenceMulti
open Go.ChangeShapes Go.WideShapes Go.ChangeAt Go.RowKit
open Go.ChangeMaps (open_string shut_string)

theorem own : ownKnob Try.prog.godebug = none := by kernel_rfl
theorem laidOut : laidOutB Try.prog = true := by kernel_rfl
theorem opens_Int64S : Opens Try.prog (eSl eInt) 37 := opens_sl Try.underlying37 (by kernel_rfl) (opens_int Try.underlying2) (by decide)
theorem opens_MultiRule : Opens Try.prog eMultiRule 126 := opens_struct (fs := #[_, _, _, _, _]) Try.underlying126 (by kernel_rfl) (opensAt_cons (opens_int Try.underlying2) rfl (by kernel_rfl) (by decide) (opensAt_cons opens_Int64S rfl (by kernel_rfl) (by decide) (opensAt_cons opens_Int64S rfl (by kernel_rfl) (by decide) (opensAt_cons opens_Int64S rfl (by kernel_rfl) (by decide) (opensAt_last (opens_int Try.underlying2) rfl (by kernel_rfl))))))
theorem opens_MultiRuleS : Opens Try.prog (eSl eMultiRule) 46 := opens_sl Try.underlying46 (by kernel_rfl) opens_MultiRule (by decide)
theorem opens_Multi : Opens Try.prog eMulti 48 := opens_struct (fs := #[_, _, _, _]) Try.underlying48 (by kernel_rfl) (opensAt_cons (opens_int Try.underlying2) rfl (by kernel_rfl) (by decide) (opensAt_cons (opens_int Try.underlying2) rfl (by kernel_rfl) (by decide) (opensAt_cons (opens_int Try.underlying2) rfl (by kernel_rfl) (by decide) (opensAt_last opens_MultiRuleS rfl (by kernel_rfl)))))

set_option maxRecDepth 100000 in
theorem lifted (os : Os) (started : os.Started) (H : Type) (enc : TypeId × Value → H) :
    ReturnsInHanded {} Try.checked os 6 .any (Rows.fnExactSequenceMultiSpec.pre6 enc Try.prog Try.f6 Rows.fnExactSequenceMultiRow.domain false) (Rows.fnExactSequenceMultiSpec.post enc Try.prog Try.f6 false true false false) := by
  refine returnsInHanded_of_change (C := Try.checked) own started (by kernel_rfl) Try.func6
    (ChangeSpec.witness6 (enc := enc) (C := Try.checked) false ⟨#[], #[.agg #[.int .i64 0, .int .i64 0, .int .i64 0, .slice none 0 0], .agg #[.int .i64 0, .int .i64 0, .int .i64 0, .slice none 0 0]], []⟩ 8 (by kernel_rfl) (by kernel_rfl) (by kernel_rfl) (by kernel_rfl)) ?_
  intro W base args ds gs before hval0 hW hcnd _
  have hval : ∀ (j : Nat) t v, Try.f6.params[j]? = some t → args[j]? = some v → Value.okWide Try.prog W .any base t v := hval0
  have hW' := hW
  obtain ⟨p, q, hA0, hV, rfl, hfz, hnd⟩ := hW
  have hA : DataW.TrodAll enc Try.prog W 0 (fun _ => true) true Try.f6.params.toList args.toList ds p := hA0
  rw [Try.params6] at hA hval
  obtain ⟨v0, vs0, d0, ds0, p0, q0, hargs, rfl, rfl, h0, r0⟩ := trodAll_cons hA
  obtain ⟨v1, vs1, d1, ds1, p1, q1, rfl, rfl, rfl, h1, r1⟩ := trodAll_cons r0
  obtain ⟨rfl, rfl, rfl⟩ := trodAll_nil r1
  obtain rfl : args = #[v0, v1] := by cases args; simp_all
  obtain ⟨rfl, rfl⟩ := trodVars_none hV
  obtain ⟨es0, rfl, _⟩ := okWide_struct Try.underlying48 (hval 0 48 v0 rfl rfl)
  have k0 := h0
  have lt0 : ∀ x ∈ p0, x.block < W.heap.size := by obtain ⟨m, hm⟩ := k0; exact DataW.trod_lt m _ _ _ hm
  obtain ⟨y0, s0⟩ : ∃ y, eMulti.R W (Old W) es0.toList y := by obtain ⟨fuel, hf⟩ := h0; exact opens_Multi _ _ _ _ _ _ _ _ _ hf
  obtain ⟨es1, rfl, _⟩ := okWide_struct Try.underlying48 (hval 1 48 v1 rfl rfl)
  have k1 := h1
  have lt1 : ∀ x ∈ p1, x.block < W.heap.size := by obtain ⟨m, hm⟩ := k1; exact DataW.trod_lt m _ _ _ hm
  obtain ⟨y1, s1⟩ : ∃ y, eMulti.R W (Old W) es1.toList y := by obtain ⟨fuel, hf⟩ := h1; exact opens_Multi _ _ _ _ _ _ _ _ _ hf
  clear hA0 hval0
  refine (law_SequenceMulti es0.toList y0 es1.toList y1 W s0 s1).mono fun e W' ⟨he, bel⟩ => ?_
  subst he
  exact ⟨_, rfl, _, _, _, [], _, [], hW', trodAll_mk1 (shut_bool Try.underlying4 _), (trodAll_cons_mk (Below.trod laidOut (by kernel_rfl) (of_decide_eq_true (by kernel_rfl)) k0 bel lt0) (trodAll_cons_mk (Below.trod laidOut (by kernel_rfl) (of_decide_eq_true (by kernel_rfl)) k1 bel lt1) trodAll_mk0)), rfl, bel.frame _, fun h => by cases h⟩

theorem closed : joinedFacts Try.prog 6 Try.f6 Rows.fnExactSequenceMultiSpec Rows.fnExactSequenceMultiRow = true := by
  unfold joinedFacts
  rw [QSeat.mayEnter, QSeat.liftsFinal, QSeat.made]
  kernel_rfl

theorem over : Rows.fnExactSequenceMultiRow.holds Try.pinned (OpenSpec.ofChange Rows.fnExactSequenceMultiSpec) :=
  OpenClaim.holds_of_wide 6 Try.f6 rfl rfl rfl rfl rfl rfl rfl ⟨rfl, rfl, rfl, rfl, rfl⟩ rfl rfl rfl rfl rfl (by kernel_rfl) Try.func6 closed
    (of_decide_eq_true (by kernel_rfl)) (by unfold Func.isWrapper; first | (rw [if_pos (by decide +kernel)]; kernel_rfl) | (rw [if_neg (by decide +kernel)]; exact ⟨rfl, rfl⟩))
    (fun os started H enc _ => lifted os started H enc)

end Go.Proofs.Ythfihlfjphiihaa.PSequenceMulti
namespace Go.Proofs.Ythfihlfjphiihaa
theorem fnExactSequenceMulti_holds : Rows.FnExactSequenceMultiSaid := PSequenceMulti.over
#print axioms fnExactSequenceMulti_holds
end Go.Proofs.Ythfihlfjphiihaa
