/- FnExactSwapSymbols: for every input the law returns true, and each argument reads afterwards as it read before. No conditions. -/
import Derived.Test.YthknelhboibbnaaRows
import Derived.Test.YthknelhboibbnaaLSwapSymbolse
import Derived.Test.YthknelhboibbnaaQOpen
import Derived.Test.YthknelhboibbnaaQSeat
import Derived.ShutString
import Derived.ChangeOld
namespace Go.Proofs.Ythknelhboibbnaa.PSwapSymbols
open Go.ChangeShapes Go.WideShapes Go.ChangeAt Go.RowKit
open Go.ChangeMaps (open_string shut_string)

theorem own : ownKnob Try.prog.godebug = none := by kernel_rfl
theorem laidOut : laidOutB Try.prog = true := by kernel_rfl
theorem opens_Rule : Opens Try.prog eRule 119 := opens_struct (fs := #[_, _, _]) Try.underlying119 (by kernel_rfl) (opensAt_cons (opens_int Try.underlying2) rfl (by kernel_rfl) (by decide) (opensAt_cons (opens_int Try.underlying2) rfl (by kernel_rfl) (by decide) (opensAt_last (opens_int Try.underlying2) rfl (by kernel_rfl))))
theorem opens_RuleS : Opens Try.prog (eSl eRule) 41 := opens_sl Try.underlying41 (by kernel_rfl) opens_Rule (by decide)
theorem opens_Machine : Opens Try.prog eMachine 43 := opens_struct (fs := #[_, _, _]) Try.underlying43 (by kernel_rfl) (opensAt_cons (opens_int Try.underlying2) rfl (by kernel_rfl) (by decide) (opensAt_cons (opens_int Try.underlying2) rfl (by kernel_rfl) (by decide) (opensAt_last opens_RuleS rfl (by kernel_rfl))))
theorem opens_Int64S : Opens Try.prog (eSl eInt) 44 := opens_sl Try.underlying44 (by kernel_rfl) (opens_int Try.underlying2) (by decide)

set_option maxRecDepth 100000 in
theorem lifted (os : Os) (started : os.Started) (H : Type) (enc : TypeId × Value → H) :
    ReturnsInHanded {} Try.checked os 6 .any (Rows.fnExactSwapSymbolsSpec.pre6 enc Try.prog Try.f6 Rows.fnExactSwapSymbolsRow.domain false) (Rows.fnExactSwapSymbolsSpec.post enc Try.prog Try.f6 false true false false) := by
  refine returnsInHanded_of_change (C := Try.checked) own started (by kernel_rfl) Try.func6
    (ChangeSpec.witness6 (enc := enc) (C := Try.checked) false ⟨#[], #[.agg #[.int .i64 0, .int .i64 0, .slice none 0 0], .slice none 0 0], []⟩ 8 (by kernel_rfl) (by kernel_rfl) (by kernel_rfl) (by kernel_rfl)) ?_
  intro W base args ds gs before hval0 hW hcnd _
  have hval : ∀ (j : Nat) t v, Try.f6.params[j]? = some t → args[j]? = some v → Value.okWide Try.prog W .any base t v := hval0
  have hW' := hW
  obtain ⟨p, q, hA0, hV, rfl, hfz, hnd⟩ := hW
  have hA : DataW.TrodAll enc Try.prog W 0 (fun _ => true) true Try.f6.params.toList args.toList ds p := hA0
  rw [Try.params6] at hA hval
  obtain ⟨v0, vs0, d0, ds0, p0, q0, hargs, rfl, rfl, h0, r0⟩ := trodAll_cons hA
  obtain ⟨v1, vs1, d1, ds1, p1, q1, rfl, rfl, rfl, h1, r1⟩ := trodAll_cons r0
  obtain ⟨rfl, rfl, rfl⟩ := trodAll_nil r1
  obtain rfl : args = #[v0, v1] := by cases args; simp_all
  obtain ⟨rfl, rfl⟩ := trodVars_none hV
  obtain ⟨es0, rfl, _⟩ := okWide_struct Try.underlying43 (hval 0 43 v0 rfl rfl)
  have k0 := h0
  have lt0 : ∀ x ∈ p0, x.block < W.heap.size := by obtain ⟨m, hm⟩ := k0; exact DataW.trod_lt m _ _ _ hm
  obtain ⟨y0, s0⟩ : ∃ y, eMachine.R W (Old W) es0.toList y := by obtain ⟨fuel, hf⟩ := h0; exact opens_Machine _ _ _ _ _ _ _ _ _ hf
  obtain ⟨A1, n1, c1, rfl⟩ := okWide_slice Try.underlying44 (hval 1 44 v1 rfl rfl)
  have k1 := h1
  have lt1 : ∀ x ∈ p1, x.block < W.heap.size := by obtain ⟨m, hm⟩ := k1; exact DataW.trod_lt m _ _ _ hm
  obtain ⟨y1, B1, b1, e1, s1⟩ : ∃ y, (eSl eInt).R W (Old W) [.slice A1 n1 c1] y := by obtain ⟨fuel, hf⟩ := h1; exact opens_Int64S _ _ _ _ _ _ _ _ _ hf
  simp only [List.cons.injEq, and_true, Value.slice.injEq] at e1
  obtain ⟨rfl, rfl, rfl⟩ := e1
  clear hA0 hval0
  refine (law_SwapSymbols es0.toList y0 _ _ y1 W s0 s1).mono fun e W' ⟨he, bel⟩ => ?_
  subst he
  exact ⟨_, rfl, _, _, _, [], _, [], hW', trodAll_mk1 (shut_bool Try.underlying4 _), (trodAll_cons_mk (Below.trod laidOut (by kernel_rfl) (of_decide_eq_true (by kernel_rfl)) k0 bel lt0) (trodAll_cons_mk (Below.trod laidOut (by kernel_rfl) (of_decide_eq_true (by kernel_rfl)) k1 bel lt1) trodAll_mk0)), rfl, bel.frame _, fun h => by cases h⟩

theorem closed : joinedFacts Try.prog 6 Try.f6 Rows.fnExactSwapSymbolsSpec Rows.fnExactSwapSymbolsRow = true := by
  unfold joinedFacts
  rw [QSeat.mayEnter, QSeat.liftsFinal, QSeat.made]
  kernel_rfl

theorem over : Rows.fnExactSwapSymbolsRow.holds Try.pinned (OpenSpec.ofChange Rows.fnExactSwapSymbolsSpec) :=
  OpenClaim.holds_of_wide 6 Try.f6 rfl rfl rfl rfl rfl rfl rfl ⟨rfl, rfl, rfl, rfl, rfl⟩ rfl rfl rfl rfl rfl (by kernel_rfl) Try.func6 closed
    (of_decide_eq_true (by kernel_rfl)) (by unfold Func.isWrapper; first | (rw [if_pos (by decide +kernel)]; kernel_rfl) | (rw [if_neg (by decide +kernel)]; exact ⟨rfl, rfl⟩))
    (fun os started H enc _ => lifted os started H enc)

end Go.Proofs.Ythknelhboibbnaa.PSwapSymbols
namespace Go.Proofs.Ythknelhboibbnaa
theorem fnExactSwapSymbols_holds : Rows.FnExactSwapSymbolsSaid := PSwapSymbols.over
#print axioms fnExactSwapSymbols_holds
end Go.Proofs.Ythknelhboibbnaa
